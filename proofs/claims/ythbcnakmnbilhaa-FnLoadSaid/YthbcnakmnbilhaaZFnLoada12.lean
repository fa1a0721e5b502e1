/- A part of the proof that the law FnLoad holds for every input: the words, functions and walks that its row needs, without a condition of their own. -/
import Derived.Test.YthbcnakmnbilhaaZFnLoada2
import Derived.Test.YthbcnakmnbilhaaZFnLoada5
import Derived.Test.YthbcnakmnbilhaaZFnLoada7
import Derived.Test.YthbcnakmnbilhaaZFnLoada8
import Derived.Test.YthbcnakmnbilhaaZFnLoada10
import Derived.Test.YthbcnakmnbilhaaZFnLoada11
import Derived.Test.YthbcnakmnbilhaaZFnLoads
namespace Go.Proofs.Ythbcnakmnbilhaa.PFnLoad
open Go.RowKit Go.Proofs.YthbcnakmnbilhaaW.PrintWords Go.Proofs.YthbcnakmnbilhaaW.PrintLast Go.Proofs.YthbcnakmnbilhaaW.PrintMore Go.Proofs.Ythbcnakmnbilhaa.SepMark
attribute [local go_sem] max2_int min2_int max_two min_two max_three min_three max_four min_four   -- for this text's walks alone
set_option linter.unusedVariables false
set_option linter.unusedSimpArgs false
def spec_l6DrawRight.l0 : Nat → List Int → List Int → Int → Int → List Int → Int → Int → List (List (S43)) → Option ((List (List (S43))) × List Int × Int × Int)
  | 0,_,_,_,_,_,_,_,_ => none
  | k + 1,x5,x6,x7,x8,x1000,x1001,x1002,x343000 => if x8 < x7 then ((spec_l1PickInt.f x1000 x1001 x1002 (([0,1,2,5,23] : List Int))).bind fun bt358 => ((spec_l1Below.f x1000 bt358.2.1 bt358.2.2 5).bind fun bt361 => (if bt361.1 = 0 then ((spec_l1Once.f x1000 bt361.2.1 bt361.2.2 2).bind fun bt364 => ((spec_Store.f k x343000 x5 bt358.1 x8 bt364.1).bind fun bt367 => (spec_l6DrawRight.l0 k bt367.2 x6 x7 (wrap64 (x8 + 1)) x1000 bt364.2.1 bt364.2.2 bt367.1))) else (if bt361.1 = 1 then ((spec_l1Once.f x1000 bt361.2.1 bt361.2.2 2).bind fun bt373 => ((spec_Store.f k x343000 x6 bt358.1 x8 bt373.1).bind fun bt376 => (spec_l6DrawRight.l0 k x5 bt376.2 x7 (wrap64 (x8 + 1)) x1000 bt373.2.1 bt373.2.2 bt376.1))) else (if bt361.1 = 2 then ((spec_l1Below.f x1000 bt361.2.1 bt361.2.2 3).bind fun bt382 => ((spec_l1Once.f x1000 bt382.2.1 bt382.2.2 2).bind fun bt385 => ((spec_Load.f k x343000 x5 bt358.1 bt382.1 bt385.1).bind fun bt388 => (spec_l6DrawRight.l0 k bt388.2 x6 x7 (wrap64 (x8 + 1)) x1000 bt385.2.1 bt385.2.2 x343000)))) else (if bt361.1 = 3 then ((spec_l1Below.f x1000 bt361.2.1 bt361.2.2 3).bind fun bt392 => ((spec_l1Once.f x1000 bt392.2.1 bt392.2.2 2).bind fun bt395 => ((spec_Load.f k x343000 x6 bt358.1 bt392.1 bt395.1).bind fun bt398 => (spec_l6DrawRight.l0 k x5 bt398.2 x7 (wrap64 (x8 + 1)) x1000 bt395.2.1 bt395.2.2 x343000)))) else ((spec_Swap.f k x343000 x5 bt358.1 x8).bind fun bt402 => (spec_l6DrawRight.l0 k bt402.2.1 x6 x7 (wrap64 (x8 + 1)) x1000 bt361.2.1 bt361.2.2 bt402.1)))))))) else ((spec_l1Once.f x1000 x1001 x1002 2).bind fun bt352 => (if bt352.1 = true then (some (x343000,x6,bt352.2.1,bt352.2.2)) else (some (x343000,x5,bt352.2.1,bt352.2.2))))
def spec_l6DrawRight.f (k : Nat) (s0_0 : List Int) (s0_1 : Int) (s0_2 : Int) : Option ((List (List (S43))) × List Int × Int × Int) := (spec_MemoryNew.f k).bind fun t339 => (if 24 ≤ 35184372088832 then ((spec_l1Below.f s0_0 s0_1 s0_2 30).bind fun bt349 => (spec_l6DrawRight.l0 k (List.replicate 24 0) (List.replicate 24 0) bt349.1 0 s0_0 bt349.2.1 bt349.2.2 t339)) else (none))
def spec_l6DrawRight.T12 : Bool × List (List Nat × List Nat) := (true,[([],[]),([],[]),([],[]),([],[]),([],[]),([4],[4]),([0,1,2,3,5,5],[0,1,2,3,5]),([6],[6]),([7],[7]),([7],[7]),([8,6,0,1,2,3,4,5,6,7,8],[8]),([9,10,0,1,2,3,4,5,6,7,8,9,10],[1,9])])
def spec_l6DrawRight.B12 : List Nat := [0,0,0,0,0,16,63,127,255,255,511,2047]
theorem spec_l6DrawRight.tab12 : rtab .any (opsOf Try.f97 12) = spec_l6DrawRight.T12 := by kernel_rfl
theorem spec_l6DrawRight.bits12 : waitsOk spec_l6DrawRight.T12.2 spec_l6DrawRight.B12 = true := by kernel_rfl
def spec_l6DrawRight.T14 : Bool × List (List Nat × List Nat) := (true,[([],[]),([],[]),([],[]),([],[]),([],[]),([4],[4]),([0,1,2,3,5,5],[0,1,2,3,5]),([6],[6]),([7],[7]),([7],[7]),([8,6,0,1,2,3,4,5,6,7,8],[8]),([9,10,0,1,2,3,4,5,6,7,8,9,10],[1,9])])
def spec_l6DrawRight.B14 : List Nat := [0,0,0,0,0,16,63,127,255,255,511,2047]
theorem spec_l6DrawRight.tab14 : rtab .any (opsOf Try.f97 14) = spec_l6DrawRight.T14 := by kernel_rfl
theorem spec_l6DrawRight.bits14 : waitsOk spec_l6DrawRight.T14.2 spec_l6DrawRight.B14 = true := by kernel_rfl
def spec_l6DrawRight.T16 : Bool × List (List Nat × List Nat) := (true,[([],[]),([],[]),([],[]),([],[]),([3],[3]),([],[]),([5,4],[5]),([0,1,2,4,6,6],[0,1,2,4,6]),([7],[7]),([8],[8]),([8],[8]),([10,7,0,1,2,3,4,5,6,7,8,9,10],[1,10])])
def spec_l6DrawRight.B16 : List Nat := [0,0,0,0,8,0,56,127,255,511,511,2047]
theorem spec_l6DrawRight.tab16 : rtab .any (opsOf Try.f97 16) = spec_l6DrawRight.T16 := by kernel_rfl
theorem spec_l6DrawRight.bits16 : waitsOk spec_l6DrawRight.T16.2 spec_l6DrawRight.B16 = true := by kernel_rfl
def spec_l6DrawRight.T18 : Bool × List (List Nat × List Nat) := (true,[([],[]),([],[]),([],[]),([],[]),([3],[3]),([],[]),([5,4],[5]),([0,1,2,4,6,6],[0,1,2,4,6]),([7],[7]),([8],[8]),([8],[8]),([10,7,0,1,2,3,4,5,6,7,8,9,10],[1,10])])
def spec_l6DrawRight.B18 : List Nat := [0,0,0,0,8,0,56,127,255,511,511,2047]
theorem spec_l6DrawRight.tab18 : rtab .any (opsOf Try.f97 18) = spec_l6DrawRight.T18 := by kernel_rfl
theorem spec_l6DrawRight.bits18 : waitsOk spec_l6DrawRight.T18.2 spec_l6DrawRight.B18 = true := by kernel_rfl
set_option maxHeartbeats 8000000 in
set_option maxRecDepth 100000 in
theorem spec_l6DrawRight.callsS (k : Nat) (g : Nat) (s0_0 : List Int) (s0_1 : Int) (s0_2 : Int) (r1 : List (List (S43))) (r2 : List Int) (r3 : Int) (r4 : Int) (w0 w : World) (hI : IsS119 w0 w g s0_0 s0_1 s0_2) (hB : Below w0.heap.size w0 w) (h : spec_l6DrawRight.f k s0_0 s0_1 s0_2 = some (r1,r2,r3,r4)) :
  Calls Try.prog 97 #[.pointer (some ⟨g,0,none⟩)] w fun e w' => ∃ v0_ v1_ : Value,e = .returned (.tuple #[.agg #[v0_],v1_]) ∧ Kd.S (sslice 43 k43) 44 w' w.heap.size (fun k_ => (w.heap.size ≤ k_) ∧ some k_ ≠ (v1_ : Value).ownBlock) v0_ r1 ∧ Kd.R (Kd.int .i64) 3 w' w.heap.size (fun k_ => (w.heap.size ≤ k_)) v1_ r2 ∧ IsS119 w0 w' g s0_0 r3 r4 ∧ Below w0.heap.size w0 w' ∧ KeepBut w w' g none := by
 have hu24 := Try.underlying24
 have HI0 := Aside0.mk hI
 have HK := Aside0.mk (KeepBut.refl w g none)
 have HL := Aside0.mk hB.size
 clear hI
 have HW0 := Aside0.mk hB.size
 have HB := Aside0.mk hB
 clear hB
 have H : ((spec_MemoryNew.f k).bind fun t339 => (if 24 ≤ 35184372088832 then ((spec_l1Below.f s0_0 s0_1 s0_2 30).bind fun bt349 => (spec_l6DrawRight.l0 k (List.replicate 24 0) (List.replicate 24 0) bt349.1 0 s0_0 bt349.2.1 bt349.2.2 t339)) else (none))) = some (r1,r2,r3,r4) := h
 clear h
 replace H := Option.bind_eq_some_iff.mp H
 obtain ⟨t339,A20,H⟩ := H
 replace H : (if 24 ≤ 35184372088832 then ((spec_l1Below.f s0_0 s0_1 s0_2 30).bind fun bt349 => (spec_l6DrawRight.l0 k (List.replicate 24 0) (List.replicate 24 0) bt349.1 0 s0_0 bt349.2.1 bt349.2.2 t339)) else (none)) = some (r1,r2,r3,r4) := H
 have A2 := Aside0.mk A20
 clear A20
 by_cases c3 : 24 ≤ 35184372088832
 ·rw [if_pos c3] at H
  have c3b0 := eq_true c3
  have c3b1 : decide (24 ≤ 35184372088832) = true := decide_eq_true c3
  clear c3
  obtain ⟨y343,hy343⟩ : ∃ y_ : List Int,y_ = (List.replicate 24 0) := ⟨_,rfl⟩
  replace H : ((spec_l1Below.f s0_0 s0_1 s0_2 30).bind fun bt349 => (spec_l6DrawRight.l0 k y343 (List.replicate 24 0) bt349.1 0 s0_0 bt349.2.1 bt349.2.2 t339)) = some (r1,r2,r3,r4) := by first | (rw [hy343];with_reducible exact H) | (have H2_ := (Option.bind_some _ _).symm.trans H;rw [hy343];with_reducible exact H2_) | (have H2_ := (Option.bind_some _ _).symm.trans H;with_reducible exact H2_) | with_reducible exact H | (rw [hy343];exact H) | exact H
  have Ny343 := Aside0.mk hy343
  clear hy343
  obtain ⟨y346,hy346⟩ : ∃ y_ : List Int,y_ = (List.replicate 24 0) := ⟨_,rfl⟩
  replace H : ((spec_l1Below.f s0_0 s0_1 s0_2 30).bind fun bt349 => (spec_l6DrawRight.l0 k y343 y346 bt349.1 0 s0_0 bt349.2.1 bt349.2.2 t339)) = some (r1,r2,r3,r4) := by first | (rw [hy346];with_reducible exact H) | (have H2_ := (Option.bind_some _ _).symm.trans H;rw [hy346];with_reducible exact H2_) | (have H2_ := (Option.bind_some _ _).symm.trans H;with_reducible exact H2_) | with_reducible exact H | (rw [hy346];exact H) | exact H
  have Ny346 := Aside0.mk hy346
  clear hy346
  replace H := Option.bind_eq_some_iff.mp H
  obtain ⟨⟨t349,t350,t351⟩,A40,H⟩ := H
  replace H : (spec_l6DrawRight.l0 k y343 y346 t349 0 s0_0 t350 t351 t339) = some (r1,r2,r3,r4) := H
  have A4 := Aside0.mk A40
  clear A40
  have H' := Aside0.mk H
  clear H
  go_enter Try.func97,Try.ntmps97
  go_wp2_with (first | ((with_reducible refine gate_dst (N := 2) rfl ?_);refine bX_ 2 (cs := #[.slice none 0 0]) (t := 24) ?_;intro gb338 hg w5 hbox hb;have n0_ := Aside0.mk (IsS119.below (gI119_ HI0.out) hb);have n1_ := Aside0.mk (KeepBut.trans (gK_ HK.out) (KeepBut.of_below hb g none) (.inl rfl));have n2_ := Aside0.mk (below_step (gB119_ HB.out) hb);have n3_ := Aside0.mk (hbox);have n4_ := Aside0.mk ((by rw [hg];exact (keep_size (w := w) (g := g) (row := none) (gK_ HK.out)) : w.heap.size ≤ gb338));have n5_ := Aside0.mk ((Nat.le_trans HW0.out (by rw [hg];exact (keep_size (w := w) (g := g) (row := none) (gK_ HK.out)) : w.heap.size ≤ gb338) : w0.heap.size ≤ gb338));have n6_ := Aside0.mk ((by rw [hg];exact Nat.ne_of_lt (IsS119.lt (show IsS119 w0 _ g s0_0 s0_1 s0_2 from gI119_ HI0.out)) : g ≠ gb338));have n7_ := Aside0.mk ((by rw [hg];exact Nat.ne_of_gt (IsS119.lt (show IsS119 w0 _ g s0_0 s0_1 s0_2 from gI119_ HI0.out)) : gb338 ≠ g));clear HI0;clear HK;clear HB;have HI0 := n0_;have HK := n1_;have HB := n2_;have BK338 := n3_;have GW338 := n4_;have GE338 := n5_;have NB0_338 := n6_;have NB338_0 := n7_;clear n0_ n1_ n2_ n3_ n4_ n5_ n6_ n7_;clear hb hbox hg) | ((with_reducible refine gate_callee (f := 13) rfl ?_);refine gL_ (some 10) Try.func13 #[] ?_;(with_reducible refine (spec_MemoryNew.calls k  t339 _ A2.out).mono ?_);rintro e w6 ⟨v340,rfl,ho0,hb⟩;refine ⟨_,rfl,?_⟩;have n0_ := Aside0.mk (Kd.S_lower (Kd.S_mono (ok' := fun k_ => (w.heap.size ≤ k_) ∧ k_ ≠ gb338 ∧ k_ ≠ g) ho0 (fun k_ hk_ => ⟨(Nat.le_trans (keep_size (w := w) (g := g) (row := none) (gK_ HK.out)) hk_),(Kd.freshB (g := gb338) (o := .cells #[.slice none 0 0] 24 (0,0)) (by (with_reducible repeat (first | refine blk_drewN ?_ _ | refine blk_drew ?_ | refine blk_alloc ?_ _));exact BK338.out) k_ hk_),(IsS119.fresh (gI119_ HI0.out) k_ hk_)⟩)) (keep_size (w := w) (g := g) (row := none) (gK_ HK.out)));have n1_ := Aside0.mk (IsS119.below (gI119_ HI0.out) hb);have n2_ := Aside0.mk (nB_ BK338.out hb);have n3_ := Aside0.mk (KeepBut.trans (gK_ HK.out) (KeepBut.of_below hb g none) (.inl rfl));have n4_ := Aside0.mk (below_step (gB119_ HB.out) hb);clear HI0;clear BK338;clear HK;clear HB;have HO341 := n0_;have HI0 := n1_;have BK338 := n2_;have HK := n3_;have HB := n4_;clear n0_ n1_ n2_ n3_ n4_;(try clear hb);(try clear hb2);(try clear hk);(try clear hi);(try clear ho0)) | ((with_reducible refine gate_dst (N := 4) rfl ?_);refine bX_ 4 (cs := #[.slice none 0 0]) (t := 24) ?_;intro gb342 hg w7 hbox hb;have n0_ := Aside0.mk (Kd.S_below (Kd.S_elderB (by (with_reducible repeat (first | apply Kd.S_alloc | apply Kd.S_drewN | apply Kd.S_drew));exact HO341.out) gb342 (Nat.le_of_eq hg.symm)) hb);have n1_ := Aside0.mk (IsS119.below (gI119_ HI0.out) hb);have n2_ := Aside0.mk (nB_ BK338.out hb);have n3_ := Aside0.mk (KeepBut.trans (gK_ HK.out) (KeepBut.of_below hb g none) (.inl rfl));have n4_ := Aside0.mk (below_step (gB119_ HB.out) hb);have n5_ := Aside0.mk (hbox);have n6_ := Aside0.mk ((by rw [hg];exact (keep_size (w := w) (g := g) (row := none) (gK_ HK.out)) : w.heap.size ≤ gb342));have n7_ := Aside0.mk ((Nat.le_trans HW0.out (by rw [hg];exact (keep_size (w := w) (g := g) (row := none) (gK_ HK.out)) : w.heap.size ≤ gb342) : w0.heap.size ≤ gb342));have n8_ := Aside0.mk (nL_ hg BK338.out);have n9_ := Aside0.mk (nG_ hg BK338.out);have n10_ := Aside0.mk ((by rw [hg];exact Nat.ne_of_lt (IsS119.lt (show IsS119 w0 _ g s0_0 s0_1 s0_2 from gI119_ HI0.out)) : g ≠ gb342));have n11_ := Aside0.mk ((by rw [hg];exact Nat.ne_of_gt (IsS119.lt (show IsS119 w0 _ g s0_0 s0_1 s0_2 from gI119_ HI0.out)) : gb342 ≠ g));clear HO341;clear HI0;clear BK338;clear HK;clear HB;have HO341 := n0_;have HI0 := n1_;have BK338 := n2_;have HK := n3_;have HB := n4_;have BK342 := n5_;have GW342 := n6_;have GE342 := n7_;have NB338_342 := n8_;have NB342_338 := n9_;have NB0_342 := n10_;have NB342_0 := n11_;clear n0_ n1_ n2_ n3_ n4_ n5_ n6_ n7_ n8_ n9_ n10_ n11_;clear hb hbox hg;obtain ⟨Ao8,co8,eo8⟩ := Kd.S_slice HO341.out;subst eo8;have hnb9 := NB342_338.out;have hnc9 := NB338_342.out;have hnb10 := NB342_0.out;have hnc10 := NB0_342.out;have hcz11_0 : w7.cell? ⟨gb342,0,none⟩ = some (.slice none 0 0) := (blk_cell BK342.out 0).trans rfl;have hfz11_0 := blk_frozen BK342.out 0) | ((with_reducible refine gate_dst (N := 11) rfl ?_);refine Kd.R_make (Kd.int .i64) _ 3 rfl (N := 11) rfl 31 _ _ rfl 24 rfl rfl Try.underlying31 (.int .i64 0) 8 info3 rfl (by decide) (by omega) 0 (ok := fun _ => True) (okp := fun _ => True) rfl (fun _ hk => hk) trivial (by omega) (by omega) (Below.refl _ _) (Nat.le_refl _) ?_;intro v344 w12 ho13 hb hg_ hnew_;clear hg_ hnew_;(first | rw [← Ny343.out] at ho13 | (simp only [Int.reduceToNat] at ho13;rw [← Ny343.out] at ho13));have n0_ := Aside0.mk (Kd.S_elder' (by (with_reducible repeat (first | apply Kd.S_alloc | apply Kd.S_drewN | apply Kd.S_drew));exact (Kd.S_mono (Kd.S_far (p := ⟨gb342,0,none⟩) (Kd.S_mono HO341.out (fun k_ hk => (⟨hk,hk.2⟩ : _ ∧ k_ ≠ gb342))) (fun _ hk => hk.2) (.slice Ao8 t339.length co8)) (fun _ h_ => h_.1))) (Kd.R_base ho13) hb);have n1_ := Aside0.mk (Kd.R_lower (Kd.R_newM (M := fun k_ => (w.heap.size ≤ k_)) ho13 (keep_size (w := w) (g := g) (row := none) (gK_ HK.out)) (fun k_ h_ => h_)) (keep_size (w := w) (g := g) (row := none) (gK_ HK.out)));have n2_ := Aside0.mk (IsS119.below (show IsS119 w0 (w7.setCell ⟨gb342,0,none⟩ (.slice Ao8 t339.length co8)) g s0_0 s0_1 s0_2 from gI119_ HI0.out) hb);have n3_ := Aside0.mk (nBf_ BK338.out hb);have n4_ := Aside0.mk (blk_below (g := gb342) (o := .cells #[.slice Ao8 t339.length co8] 24 (0,0)) (by (with_reducible repeat (first | refine blk_drewN ?_ _ | refine blk_drew ?_ | refine blk_alloc ?_ _));refine blk_put (cs := #[.slice none 0 0]) ?_ 0 _ rfl;exact rW_ BK342.out) hb);have n5_ := Aside0.mk (KeepBut.trans (gK_ HK.out) (KeepBut.of_below hb g none) (.inl rfl));have n6_ := Aside0.mk (below_step (gB119_ HB.out) hb);clear HO341;clear HI0;clear BK338;clear BK342;clear HK;clear HB;have HO341 := n0_;have HO345 := n1_;have HI0 := n2_;have BK338 := n3_;have BK342 := n4_;have HK := n5_;have HB := n6_;clear n0_ n1_ n2_ n3_ n4_ n5_ n6_;clear hb ho13) | ((with_reducible refine gate_dst (N := 12) rfl ?_);refine Kd.R_make (Kd.int .i64) _ 3 rfl (N := 12) rfl 31 _ _ rfl 24 rfl rfl Try.underlying31 (.int .i64 0) 8 info3 rfl (by decide) (by omega) 0 (ok := fun _ => True) (okp := fun _ => True) rfl (fun _ hk => hk) trivial (by omega) (by omega) (Below.refl _ _) (Nat.le_refl _) ?_;intro v347 w14 ho15 hb hg_ hnew_;clear hg_ hnew_;(first | rw [← Ny346.out] at ho15 | (simp only [Int.reduceToNat] at ho15;rw [← Ny346.out] at ho15));have n0_ := Aside0.mk (Kd.S_elder' (by (with_reducible repeat (first | apply Kd.S_alloc | apply Kd.S_drewN | apply Kd.S_drew));exact HO341.out) (Kd.R_base ho15) hb);have n1_ := Aside0.mk (Kd.R_elder' (by (with_reducible repeat (first | apply Kd.R_alloc | apply Kd.R_drewN | apply Kd.R_drew));exact HO345.out) (Kd.R_base ho15) hb);have n2_ := Aside0.mk (Kd.R_lower (Kd.R_new' (Kd.R_newM (M := fun k_ => (w.heap.size ≤ k_)) ho15 (keep_size (w := w) (g := g) (row := none) (gK_ HK.out)) (fun k_ h_ => h_)) (Kd.R_lt (by (with_reducible repeat (first | apply Kd.R_alloc | apply Kd.R_drewN | apply Kd.R_drew));exact HO345.out))) (keep_size (w := w) (g := g) (row := none) (gK_ HK.out)));have n3_ := Aside0.mk (IsS119.below (gI119_ HI0.out) hb);have n4_ := Aside0.mk (nB_ BK338.out hb);have n5_ := Aside0.mk (nB_ BK342.out hb);have n6_ := Aside0.mk (KeepBut.trans (gK_ HK.out) (KeepBut.of_below hb g none) (.inl rfl));have n7_ := Aside0.mk (below_step (gB119_ HB.out) hb);clear HO341;clear HO345;clear HI0;clear BK338;clear BK342;clear HK;clear HB;have HO341 := n0_;have HO345 := n1_;have HO348 := n2_;have HI0 := n3_;have BK338 := n4_;have BK342 := n5_;have HK := n6_;have HB := n7_;clear n0_ n1_ n2_ n3_ n4_ n5_ n6_ n7_;clear hb ho15) | ((with_reducible refine gate_callee (f := 84) rfl ?_);refine gL_ (some 14) Try.func84 #[.pointer (some ⟨g,0,none⟩),.int .i64 30] ?_;(with_reducible refine (spec_l1Below.calls g s0_0 s0_1 s0_2 30 t349 t350 t351 w0 _ ?side1 ?side2 A4.out).mono ?_);(case side1 => exact gI119_ HI0.out);(case side2 => exact gB119_ HB.out);rintro e w16 ⟨rfl,hi,hb,hk⟩;refine ⟨_,rfl,?_⟩;have n0_ := Aside0.mk (KeepBut.blk hk (g' := gb338) (o := .cells #[.slice none 0 0] 24 (0,0)) (by (with_reducible repeat (first | refine blk_drewN ?_ _ | refine blk_drew ?_ | refine blk_alloc ?_ _));exact BK338.out) NB338_0.out (by simp));have n1_ := Aside0.mk (Kd.S_mono (Kd.S_keep (Kd.S_mono (ok := fun k_ => ((((((w.heap.size ≤ k_)) ∧ (k_ ≠ gb338 ∧ k_ ≠ g)) ∧ k_ ≠ gb342) ∧ some k_ ≠ (v344 : Value).ownBlock) ∧ some k_ ≠ (v347 : Value).ownBlock)) (by (with_reducible repeat (first | apply Kd.S_alloc | apply Kd.S_drewN | apply Kd.S_drew));exact HO341.out) (fun k_ hk_ => (⟨hk_,hk_.1.1.1.2.2⟩ : _ ∧ k_ ≠ g))) hk (fun _ h => h.2)) (fun _ h => h.1));have n2_ := Aside0.mk (KeepBut.blk hk (g' := gb342) (o := .cells #[.slice Ao8 t339.length co8] 24 (0,0)) (by (with_reducible repeat (first | refine blk_drewN ?_ _ | refine blk_drew ?_ | refine blk_alloc ?_ _));exact BK342.out) NB342_0.out (by simp));have n3_ := Aside0.mk (Kd.R_mono (Kd.R_keep (IsS119.apart (show IsS119 w0 _ g s0_0 s0_1 s0_2 from gI119_ HI0.out) (by (with_reducible repeat (first | apply Kd.R_alloc | apply Kd.R_drewN | apply Kd.R_drew));exact HO345.out) (by decide)) hk (fun _ h => h.2)) (fun _ h => h.1));have n4_ := Aside0.mk (Kd.R_mono (Kd.R_keep (IsS119.apart (show IsS119 w0 _ g s0_0 s0_1 s0_2 from gI119_ HI0.out) (by (with_reducible repeat (first | apply Kd.R_alloc | apply Kd.R_drewN | apply Kd.R_drew));exact HO348.out) (by decide)) hk (fun _ h => h.2)) (fun _ h => h.1));have n5_ := Aside0.mk (KeepBut.trans (gK_ HK.out) hk (.inl rfl));have n6_ := Aside0.mk (hb);have n7_ := Aside0.mk (hi);clear BK338;clear HO341;clear BK342;clear HO345;clear HO348;clear HK;clear HB;clear HI0;have BK338 := n0_;have HO341 := n1_;have BK342 := n2_;have HO345 := n3_;have HO348 := n4_;have HK := n5_;have HB := n6_;have HI0 := n7_;clear n0_ n1_ n2_ n3_ n4_ n5_ n6_ n7_;(try clear hb);(try clear hb2);(try clear hk);(try clear hi)))
  go_loopg [5,6,8] k (fun kq v5 v6 v8 w' => ∃ (x5_1 : List Int) (x6_1 : List Int) (x8_1 : Int) (x1001_1 : Int) (x1002_1 : Int) (x343000_1 : List (List (S43))) (u343000 : Value),v8 = .int .i64 x8_1 ∧ Aside0 (spec_l6DrawRight.l0 kq x5_1 x6_1 t349 x8_1 s0_0 x1001_1 x1002_1 x343000_1 = some (r1,r2,r3,r4)) ∧ Aside0 (kq ≤ k) ∧ Aside0 (Kd.R (Kd.int .i64) 3 w' w.heap.size (fun k_ => (w.heap.size ≤ k_) ∧ some k_ ≠ (v6 : Value).ownBlock) v5 x5_1) ∧ Aside0 (Kd.R (Kd.int .i64) 3 w' w.heap.size (fun k_ => (w.heap.size ≤ k_) ∧ some k_ ≠ (v5 : Value).ownBlock) v6 x6_1) ∧ Aside0 (Kd.S (sslice 43 k43) 44 w' w.heap.size (fun k_ => (w.heap.size ≤ k_) ∧ some k_ ≠ (v5 : Value).ownBlock ∧ some k_ ≠ (v6 : Value).ownBlock ∧ k_ ≠ gb338 ∧ k_ ≠ gb342 ∧ k_ ≠ g) u343000 x343000_1) ∧ Aside0 (w'.heap[gb338]? = some (.cells #[(.slice none 0 0)] 24 (0,0))) ∧ Aside0 (w'.heap[gb342]? = some (.cells #[u343000] 24 (0,0))) ∧ Aside0 (IsS119 w0 w' g s0_0 x1001_1 x1002_1) ∧ Aside0 (KeepBut w w' g none) ∧ Aside0 (Below w0.heap.size w0 w'))
  case atStart => exact ⟨(y343),(y346),(0),(t350),(t351),(t339),(.slice Ao8 t339.length co8),(by first | rfl | (simp;done) | (simp [*];done)),H',⟨Nat.le_refl _⟩,⟨by (with_reducible repeat (first | apply Kd.R_alloc | apply Kd.R_drewN | apply Kd.R_drew));exact Kd.R_mono HO345.out (fun _ hk => ⟨hk.1.1,hk.2⟩)⟩,⟨by (with_reducible repeat (first | apply Kd.R_alloc | apply Kd.R_drewN | apply Kd.R_drew));exact Kd.R_mono HO348.out (fun _ hk => ⟨hk.1.1,hk.2⟩)⟩,⟨(by (with_reducible repeat (first | apply Kd.S_alloc | apply Kd.S_drewN | apply Kd.S_drew));exact Kd.S_mono HO341.out (fun _ hk => ⟨hk.1.1.1.1,⟨hk.1.2,⟨hk.2,⟨hk.1.1.1.2.1,⟨hk.1.1.2,hk.1.1.1.2.2⟩⟩⟩⟩⟩))⟩,⟨rW_ BK338.out⟩,⟨rW_ BK342.out⟩,⟨gI119_ HI0.out⟩,⟨gK_ HK.out⟩,⟨gB119_ HB.out⟩⟩
  case round =>
   clear H'
   try clear c1
   try clear p2
   try clear c3
   try clear c3b0
   try clear c3b1
   try clear c8
   try clear c9
   try clear c10
   try clear c13
   try clear hcz11_0 hfz11_0
   obtain ⟨x5_1,x6_1,x8_1,x1001_1,x1002_1,x343000_1,u343000,rfl,HA,HK1,HO_5,HO_6,HO_343000,BK338,BK342,HI0,HK,HB⟩ := hrel
   cases gk with
   | zero => exact absurd HA.out (by simp [spec_l6DrawRight.l0])
   | succ k1 =>
    have H := HA.out
    clear HA
    simp only [spec_l6DrawRight.l0] at H
    by_cases c17 : x8_1 < t349
    ·rw [if_pos c17] at H
     have c17b0 : decide (x8_1 < t349) = true := decide_eq_true c17
     clear c17
     obtain ⟨y355,hy355⟩ : ∃ y_ : List Int,y_ = (([0,1,2,5,23] : List Int)) := ⟨_,rfl⟩
     replace H : ((spec_l1PickInt.f s0_0 x1001_1 x1002_1 y355).bind fun bt358 => ((spec_l1Below.f s0_0 bt358.2.1 bt358.2.2 5).bind fun bt361 => (if bt361.1 = 0 then ((spec_l1Once.f s0_0 bt361.2.1 bt361.2.2 2).bind fun bt364 => ((spec_Store.f k1 x343000_1 x5_1 bt358.1 x8_1 bt364.1).bind fun bt367 => (spec_l6DrawRight.l0 k1 bt367.2 x6_1 t349 (wrap64 (x8_1 + 1)) s0_0 bt364.2.1 bt364.2.2 bt367.1))) else (if bt361.1 = 1 then ((spec_l1Once.f s0_0 bt361.2.1 bt361.2.2 2).bind fun bt373 => ((spec_Store.f k1 x343000_1 x6_1 bt358.1 x8_1 bt373.1).bind fun bt376 => (spec_l6DrawRight.l0 k1 x5_1 bt376.2 t349 (wrap64 (x8_1 + 1)) s0_0 bt373.2.1 bt373.2.2 bt376.1))) else (if bt361.1 = 2 then ((spec_l1Below.f s0_0 bt361.2.1 bt361.2.2 3).bind fun bt382 => ((spec_l1Once.f s0_0 bt382.2.1 bt382.2.2 2).bind fun bt385 => ((spec_Load.f k1 x343000_1 x5_1 bt358.1 bt382.1 bt385.1).bind fun bt388 => (spec_l6DrawRight.l0 k1 bt388.2 x6_1 t349 (wrap64 (x8_1 + 1)) s0_0 bt385.2.1 bt385.2.2 x343000_1)))) else (if bt361.1 = 3 then ((spec_l1Below.f s0_0 bt361.2.1 bt361.2.2 3).bind fun bt392 => ((spec_l1Once.f s0_0 bt392.2.1 bt392.2.2 2).bind fun bt395 => ((spec_Load.f k1 x343000_1 x6_1 bt358.1 bt392.1 bt395.1).bind fun bt398 => (spec_l6DrawRight.l0 k1 x5_1 bt398.2 t349 (wrap64 (x8_1 + 1)) s0_0 bt395.2.1 bt395.2.2 x343000_1)))) else ((spec_Swap.f k1 x343000_1 x5_1 bt358.1 x8_1).bind fun bt402 => (spec_l6DrawRight.l0 k1 bt402.2.1 x6_1 t349 (wrap64 (x8_1 + 1)) s0_0 bt361.2.1 bt361.2.2 bt402.1)))))))) = some (r1,r2,r3,r4) := by first | (rw [hy355];with_reducible exact H) | (have H2_ := (Option.bind_some _ _).symm.trans H;rw [hy355];with_reducible exact H2_) | (have H2_ := (Option.bind_some _ _).symm.trans H;with_reducible exact H2_) | with_reducible exact H | (rw [hy355];exact H) | exact H
     have Ny355 := Aside0.mk hy355
     clear hy355
     replace H := Option.bind_eq_some_iff.mp H
     obtain ⟨⟨t358,t359,t360⟩,A180,H⟩ := H
     replace H : ((spec_l1Below.f s0_0 t359 t360 5).bind fun bt361 => (if bt361.1 = 0 then ((spec_l1Once.f s0_0 bt361.2.1 bt361.2.2 2).bind fun bt364 => ((spec_Store.f k1 x343000_1 x5_1 t358 x8_1 bt364.1).bind fun bt367 => (spec_l6DrawRight.l0 k1 bt367.2 x6_1 t349 (wrap64 (x8_1 + 1)) s0_0 bt364.2.1 bt364.2.2 bt367.1))) else (if bt361.1 = 1 then ((spec_l1Once.f s0_0 bt361.2.1 bt361.2.2 2).bind fun bt373 => ((spec_Store.f k1 x343000_1 x6_1 t358 x8_1 bt373.1).bind fun bt376 => (spec_l6DrawRight.l0 k1 x5_1 bt376.2 t349 (wrap64 (x8_1 + 1)) s0_0 bt373.2.1 bt373.2.2 bt376.1))) else (if bt361.1 = 2 then ((spec_l1Below.f s0_0 bt361.2.1 bt361.2.2 3).bind fun bt382 => ((spec_l1Once.f s0_0 bt382.2.1 bt382.2.2 2).bind fun bt385 => ((spec_Load.f k1 x343000_1 x5_1 t358 bt382.1 bt385.1).bind fun bt388 => (spec_l6DrawRight.l0 k1 bt388.2 x6_1 t349 (wrap64 (x8_1 + 1)) s0_0 bt385.2.1 bt385.2.2 x343000_1)))) else (if bt361.1 = 3 then ((spec_l1Below.f s0_0 bt361.2.1 bt361.2.2 3).bind fun bt392 => ((spec_l1Once.f s0_0 bt392.2.1 bt392.2.2 2).bind fun bt395 => ((spec_Load.f k1 x343000_1 x6_1 t358 bt392.1 bt395.1).bind fun bt398 => (spec_l6DrawRight.l0 k1 x5_1 bt398.2 t349 (wrap64 (x8_1 + 1)) s0_0 bt395.2.1 bt395.2.2 x343000_1)))) else ((spec_Swap.f k1 x343000_1 x5_1 t358 x8_1).bind fun bt402 => (spec_l6DrawRight.l0 k1 bt402.2.1 x6_1 t349 (wrap64 (x8_1 + 1)) s0_0 bt361.2.1 bt361.2.2 bt402.1))))))) = some (r1,r2,r3,r4) := H
     have A18 := Aside0.mk A180
     clear A180
     replace H := Option.bind_eq_some_iff.mp H
     obtain ⟨⟨t361,t362,t363⟩,A190,H⟩ := H
     replace H : (if t361 = 0 then ((spec_l1Once.f s0_0 t362 t363 2).bind fun bt364 => ((spec_Store.f k1 x343000_1 x5_1 t358 x8_1 bt364.1).bind fun bt367 => (spec_l6DrawRight.l0 k1 bt367.2 x6_1 t349 (wrap64 (x8_1 + 1)) s0_0 bt364.2.1 bt364.2.2 bt367.1))) else (if t361 = 1 then ((spec_l1Once.f s0_0 t362 t363 2).bind fun bt373 => ((spec_Store.f k1 x343000_1 x6_1 t358 x8_1 bt373.1).bind fun bt376 => (spec_l6DrawRight.l0 k1 x5_1 bt376.2 t349 (wrap64 (x8_1 + 1)) s0_0 bt373.2.1 bt373.2.2 bt376.1))) else (if t361 = 2 then ((spec_l1Below.f s0_0 t362 t363 3).bind fun bt382 => ((spec_l1Once.f s0_0 bt382.2.1 bt382.2.2 2).bind fun bt385 => ((spec_Load.f k1 x343000_1 x5_1 t358 bt382.1 bt385.1).bind fun bt388 => (spec_l6DrawRight.l0 k1 bt388.2 x6_1 t349 (wrap64 (x8_1 + 1)) s0_0 bt385.2.1 bt385.2.2 x343000_1)))) else (if t361 = 3 then ((spec_l1Below.f s0_0 t362 t363 3).bind fun bt392 => ((spec_l1Once.f s0_0 bt392.2.1 bt392.2.2 2).bind fun bt395 => ((spec_Load.f k1 x343000_1 x6_1 t358 bt392.1 bt395.1).bind fun bt398 => (spec_l6DrawRight.l0 k1 x5_1 bt398.2 t349 (wrap64 (x8_1 + 1)) s0_0 bt395.2.1 bt395.2.2 x343000_1)))) else ((spec_Swap.f k1 x343000_1 x5_1 t358 x8_1).bind fun bt402 => (spec_l6DrawRight.l0 k1 bt402.2.1 x6_1 t349 (wrap64 (x8_1 + 1)) s0_0 t362 t363 bt402.1)))))) = some (r1,r2,r3,r4) := H
     have A19 := Aside0.mk A190
     clear A190
     by_cases c20 : t361 = 0
     ·rw [if_pos c20] at H
      have c20b0 : (t361 == 0) = true := beq_iff_eq.mpr c20
      have c20b1 : (t361 != 0) = false := bne_eq_false_iff_eq.mpr c20
      clear c20
      replace H := Option.bind_eq_some_iff.mp H
      obtain ⟨⟨t364,t365,t366⟩,A210,H⟩ := H
      replace H : ((spec_Store.f k1 x343000_1 x5_1 t358 x8_1 t364).bind fun bt367 => (spec_l6DrawRight.l0 k1 bt367.2 x6_1 t349 (wrap64 (x8_1 + 1)) s0_0 t365 t366 bt367.1)) = some (r1,r2,r3,r4) := H
      have A21 := Aside0.mk A210
      clear A210
      replace H := Option.bind_eq_some_iff.mp H
      obtain ⟨⟨t367,t370⟩,A220,H⟩ := H
      replace H : (spec_l6DrawRight.l0 k1 t370 x6_1 t349 (wrap64 (x8_1 + 1)) s0_0 t365 t366 t367) = some (r1,r2,r3,r4) := H
      have A22 := Aside0.mk A220
      clear A220
      have H' := Aside0.mk H
      clear H
      try go_wp2_with (first | ((with_reducible refine gate_dst (N := 21) rfl ?_);refine Kd.R_lit (Kd.int .i64) _ 3 ?hg (N := 21) ?hd (xs := ([0,1,2,5,23] : List Int)) (inner := [.int .i64 0,.int .i64 1,.int .i64 2,.int .i64 5,.int .i64 23]) (ok := fun _ => True) (okp := fun _ => True) ?hr ?hp (fun _ hk => hk) trivial (Below.refl _ _) (Nat.le_refl _) (by simp) ?_;(case hd => rfl);(case hg => rfl);(case hr => first | (go_simp;done) | (go_simp;rfl));(case hp => exact (Reps.one (show Kd.M (Kd.int .i64) _ _ _ 0 [.int .i64 0] from rfl) (Reps.one (show Kd.M (Kd.int .i64) _ _ _ 1 [.int .i64 1] from rfl) (Reps.one (show Kd.M (Kd.int .i64) _ _ _ 2 [.int .i64 2] from rfl) (Reps.one (show Kd.M (Kd.int .i64) _ _ _ 5 [.int .i64 5] from rfl) (Reps.one (show Kd.M (Kd.int .i64) _ _ _ 23 [.int .i64 23] from rfl) (Reps.none _ _)))))));intro v356 w23 ho24 hb hg_ hnew_;clear hg_ hnew_;(first | rw [← Ny355.out] at ho24 | (simp only [Int.reduceToNat] at ho24;rw [← Ny355.out] at ho24));have n0_ := Aside0.mk (Kd.R_elder' (by (with_reducible repeat (first | apply Kd.R_alloc | apply Kd.R_drewN | apply Kd.R_drew));exact HO_5.out) (Kd.R_base ho24) hb);have n1_ := Aside0.mk (Kd.R_elder' (by (with_reducible repeat (first | apply Kd.R_alloc | apply Kd.R_drewN | apply Kd.R_drew));exact HO_6.out) (Kd.R_base ho24) hb);have n2_ := Aside0.mk (Kd.S_elder' (by (with_reducible repeat (first | apply Kd.S_alloc | apply Kd.S_drewN | apply Kd.S_drew));exact HO_343000.out) (Kd.R_base ho24) hb);have n3_ := Aside0.mk (Kd.R_lower (Kd.R_new' (Kd.R_new' (Kd.R_newM (M := fun k_ => (w.heap.size ≤ k_)) ho24 (keep_size (w := w) (g := g) (row := none) (gK_ HK.out)) (fun k_ h_ => h_)) (Kd.R_lt (by (with_reducible repeat (first | apply Kd.R_alloc | apply Kd.R_drewN | apply Kd.R_drew));exact HO_5.out))) (Kd.R_lt (by (with_reducible repeat (first | apply Kd.R_alloc | apply Kd.R_drewN | apply Kd.R_drew));exact HO_6.out))) (keep_size (w := w) (g := g) (row := none) (gK_ HK.out)));have n4_ := Aside0.mk (nB_ BK338.out hb);have n5_ := Aside0.mk (nB_ BK342.out hb);have n6_ := Aside0.mk (IsS119.below (gI119_ HI0.out) hb);have n7_ := Aside0.mk (KeepBut.trans (gK_ HK.out) (KeepBut.of_below hb g none) (.inl rfl));have n8_ := Aside0.mk (below_step (gB119_ HB.out) hb);clear HO_5;clear HO_6;clear HO_343000;clear BK338;clear BK342;clear HI0;clear HK;clear HB;have HO_5 := n0_;have HO_6 := n1_;have HO_343000 := n2_;have HO357 := n3_;have BK338 := n4_;have BK342 := n5_;have HI0 := n6_;have HK := n7_;have HB := n8_;clear n0_ n1_ n2_ n3_ n4_ n5_ n6_ n7_ n8_;clear hb ho24;obtain ⟨Ao25,co25,eo25⟩ := Kd.R_slice HO357.out;subst eo25) | ((with_reducible refine gate_callee (f := 66) rfl ?_);refine gL_ (some 22) Try.func66 #[.pointer (some ⟨g,0,none⟩),.slice Ao25 y355.length co25] ?_;(with_reducible refine (spec_l1PickInt.calls g s0_0 x1001_1 x1002_1 _ _ y355 t358 t359 t360 w0 _ ?side1 ?side2 ?side3 ?side4 ?side5 A18.out).mono ?_);(case side1 => exact gI119_ HI0.out);(case side2 => exact gB119_ HB.out);(case side3 => exact cS_ (Kd.R_reads' HO357.out).2.2);(case side4 => exact (Kd.R_reads' HO357.out).2.1);(case side5 => exact far_slice (IsS119.own_ne HI0.out HO357.out (by decide)));rintro e w26 ⟨rfl,hi,hb,hk⟩;refine ⟨_,rfl,?_⟩;have n0_ := Aside0.mk (Kd.R_mono (Kd.R_keep (IsS119.apart (show IsS119 w0 _ g s0_0 x1001_1 x1002_1 from gI119_ HI0.out) (by (with_reducible repeat (first | apply Kd.R_alloc | apply Kd.R_drewN | apply Kd.R_drew));exact HO_5.out) (by decide)) hk (fun _ h => h.2)) (fun _ h => h.1));have n1_ := Aside0.mk (Kd.R_mono (Kd.R_keep (IsS119.apart (show IsS119 w0 _ g s0_0 x1001_1 x1002_1 from gI119_ HI0.out) (by (with_reducible repeat (first | apply Kd.R_alloc | apply Kd.R_drewN | apply Kd.R_drew));exact HO_6.out) (by decide)) hk (fun _ h => h.2)) (fun _ h => h.1));have n2_ := Aside0.mk (Kd.S_mono (Kd.S_keep (Kd.S_mono (ok := fun k_ => ((((w.heap.size ≤ k_)) ∧ (some k_ ≠ (u5 : Value).ownBlock ∧ (some k_ ≠ (u6 : Value).ownBlock ∧ (k_ ≠ gb338 ∧ (k_ ≠ gb342 ∧ k_ ≠ g))))) ∧ some k_ ≠ (.slice Ao25 y355.length co25 : Value).ownBlock)) (by (with_reducible repeat (first | apply Kd.S_alloc | apply Kd.S_drewN | apply Kd.S_drew));exact HO_343000.out) (fun k_ hk_ => (⟨hk_,hk_.1.2.2.2.2.2⟩ : _ ∧ k_ ≠ g))) hk (fun _ h => h.2)) (fun _ h => h.1));have n3_ := Aside0.mk (KeepBut.blk hk (g' := gb338) (o := .cells #[.slice none 0 0] 24 (0,0)) (by (with_reducible repeat (first | refine blk_drewN ?_ _ | refine blk_drew ?_ | refine blk_alloc ?_ _));exact BK338.out) NB338_0.out (by simp));have n4_ := Aside0.mk (KeepBut.blk hk (g' := gb342) (o := .cells #[u343000] 24 (0,0)) (by (with_reducible repeat (first | refine blk_drewN ?_ _ | refine blk_drew ?_ | refine blk_alloc ?_ _));exact BK342.out) NB342_0.out (by simp));have n5_ := Aside0.mk (Kd.R_mono (Kd.R_keep (IsS119.apart (show IsS119 w0 _ g s0_0 x1001_1 x1002_1 from gI119_ HI0.out) (by (with_reducible repeat (first | apply Kd.R_alloc | apply Kd.R_drewN | apply Kd.R_drew));exact HO357.out) (by decide)) hk (fun _ h => h.2)) (fun _ h => h.1));have n6_ := Aside0.mk (KeepBut.trans (gK_ HK.out) hk (.inl rfl));have n7_ := Aside0.mk (hb);have n8_ := Aside0.mk (hi);clear HO_5;clear HO_6;clear HO_343000;clear BK338;clear BK342;clear HO357;clear HK;clear HB;clear HI0;have HO_5 := n0_;have HO_6 := n1_;have HO_343000 := n2_;have BK338 := n3_;have BK342 := n4_;have HO357 := n5_;have HK := n6_;have HB := n7_;have HI0 := n8_;clear n0_ n1_ n2_ n3_ n4_ n5_ n6_ n7_ n8_;(try clear hb);(try clear hb2);(try clear hk);(try clear hi)) | ((with_reducible refine gate_callee (f := 84) rfl ?_);refine gL_ (some 24) Try.func84 #[.pointer (some ⟨g,0,none⟩),.int .i64 5] ?_;(with_reducible refine (spec_l1Below.calls g s0_0 t359 t360 5 t361 t362 t363 w0 _ ?side1 ?side2 A19.out).mono ?_);(case side1 => exact gI119_ HI0.out);(case side2 => exact gB119_ HB.out);rintro e w27 ⟨rfl,hi,hb,hk⟩;refine ⟨_,rfl,?_⟩;have n0_ := Aside0.mk (Kd.R_mono (Kd.R_keep (IsS119.apart (show IsS119 w0 _ g s0_0 t359 t360 from gI119_ HI0.out) (by (with_reducible repeat (first | apply Kd.R_alloc | apply Kd.R_drewN | apply Kd.R_drew));exact HO_5.out) (by decide)) hk (fun _ h => h.2)) (fun _ h => h.1));have n1_ := Aside0.mk (Kd.R_mono (Kd.R_keep (IsS119.apart (show IsS119 w0 _ g s0_0 t359 t360 from gI119_ HI0.out) (by (with_reducible repeat (first | apply Kd.R_alloc | apply Kd.R_drewN | apply Kd.R_drew));exact HO_6.out) (by decide)) hk (fun _ h => h.2)) (fun _ h => h.1));have n2_ := Aside0.mk (Kd.S_mono (Kd.S_keep (Kd.S_mono (ok := fun k_ => ((((w.heap.size ≤ k_)) ∧ (some k_ ≠ (u5 : Value).ownBlock ∧ (some k_ ≠ (u6 : Value).ownBlock ∧ (k_ ≠ gb338 ∧ (k_ ≠ gb342 ∧ k_ ≠ g))))) ∧ some k_ ≠ (.slice Ao25 y355.length co25 : Value).ownBlock)) (by (with_reducible repeat (first | apply Kd.S_alloc | apply Kd.S_drewN | apply Kd.S_drew));exact HO_343000.out) (fun k_ hk_ => (⟨hk_,hk_.1.2.2.2.2.2⟩ : _ ∧ k_ ≠ g))) hk (fun _ h => h.2)) (fun _ h => h.1));have n3_ := Aside0.mk (KeepBut.blk hk (g' := gb338) (o := .cells #[.slice none 0 0] 24 (0,0)) (by (with_reducible repeat (first | refine blk_drewN ?_ _ | refine blk_drew ?_ | refine blk_alloc ?_ _));exact BK338.out) NB338_0.out (by simp));have n4_ := Aside0.mk (KeepBut.blk hk (g' := gb342) (o := .cells #[u343000] 24 (0,0)) (by (with_reducible repeat (first | refine blk_drewN ?_ _ | refine blk_drew ?_ | refine blk_alloc ?_ _));exact BK342.out) NB342_0.out (by simp));have n5_ := Aside0.mk (Kd.R_mono (Kd.R_keep (IsS119.apart (show IsS119 w0 _ g s0_0 t359 t360 from gI119_ HI0.out) (by (with_reducible repeat (first | apply Kd.R_alloc | apply Kd.R_drewN | apply Kd.R_drew));exact HO357.out) (by decide)) hk (fun _ h => h.2)) (fun _ h => h.1));have n6_ := Aside0.mk (KeepBut.trans (gK_ HK.out) hk (.inl rfl));have n7_ := Aside0.mk (hb);have n8_ := Aside0.mk (hi);clear HO_5;clear HO_6;clear HO_343000;clear BK338;clear BK342;clear HO357;clear HK;clear HB;clear HI0;have HO_5 := n0_;have HO_6 := n1_;have HO_343000 := n2_;have BK338 := n3_;have BK342 := n4_;have HO357 := n5_;have HK := n6_;have HB := n7_;have HI0 := n8_;clear n0_ n1_ n2_ n3_ n4_ n5_ n6_ n7_ n8_;(try clear hb);(try clear hb2);(try clear hk);(try clear hi)))
      have n0_ := Aside0.mk (Kd.R_drew HO_5.out)
      have n1_ := Aside0.mk (Kd.R_drew HO_6.out)
      have n2_ := Aside0.mk (Kd.S_drew HO_343000.out)
      have n3_ := Aside0.mk (Kd.R_drew HO357.out)
      have n4_ := Aside0.mk (blk_drew BK338.out)
      have n5_ := Aside0.mk (blk_drew BK342.out)
      have n6_ := Aside0.mk (IsS119.drew HI0.out)
      have n7_ := Aside0.mk (keep_drew HK.out)
      have n8_ := Aside0.mk (below_drew1 HB.out)
      clear HO_5
      clear HO_6
      clear HO_343000
      clear HO357
      clear BK338
      clear BK342
      clear HI0
      clear HK
      clear HB
      have HO_5 := n0_
      have HO_6 := n1_
      have HO_343000 := n2_
      have HO357 := n3_
      have BK338 := n4_
      have BK342 := n5_
      have HI0 := n6_
      have HK := n7_
      have HB := n8_
      clear n0_ n1_ n2_ n3_ n4_ n5_ n6_ n7_ n8_
      refine start_ (n := 12) (S := fun w' => w'.cell? ⟨gb342,0,none⟩ = some (u343000)) (ds := [10]) #[false,false,false,false,false,false,false,false,false,false,false,false] (by kernel_rfl) rfl rfl ((blk_cell BK342.out 0).trans rfl) (fun hHeld => ?_);refine with_tabW spec_l6DrawRight.tab12 spec_l6DrawRight.bits12 (fun HT_ HW_ => ?_)
      generalize w27.drew = w28 at HO_5 HO_6 HO_343000 HO357 BK338 BK342 HI0 HK HB hHeld ⊢
      refine pU_ 1 (some 38) (mk_ 12 2) ?_
      refine pU_ 2 (some 39) (mk_ 12 6) ?_
      refine pU_ 3 (some 40) (mk_ 12 14) ?_
      refine pU_ 4 (some 41) (mk_ 12 30) ?_
      refine take_ (i := 0) (N := some 37) (v := ?_) (a' := ?_) #[true,true,true,true,true,false,false,false,false,false,false,false] rfl rfl (take_ofW HT_.out HW_.out (by kernel_rfl)) (fun _ _ _ h => h) (Or.inl ⟨by rfl,?_⟩) hHeld ?_ ?_
      rotate_left
      ·intro w' s0
       go_simp
       with_reducible rfl
      rotate_left
      ·simp only [Act.put,List.setIfInBounds_toArray,List.set_cons_zero,List.set_cons_succ,i64_w,i32_w]
       rfl
      refine oN_ 5 (some 42) (mk_ 12 63) (fun K hK => ?_)
      refine gO_ Try.func67 #[.pointer (some ⟨g,0,none⟩),.int .i64 2] ?_
      with_reducible refine (spec_l1Once.calls g s0_0 t362 t363 2 t364 t365 t366 w0 _ ?side1 ?side2 A21.out).mono ?_
      (case side1 => exact gI119_ HI0.out)
      (case side2 => exact gB119_ HB.out)
      rintro e w29 ⟨rfl,hi,hb,hk⟩
      refine ⟨_,rfl,?_⟩
      have n0_ := Aside0.mk (Kd.R_mono (Kd.R_keep (IsS119.apart (show IsS119 w0 _ g s0_0 t362 t363 from gI119_ HI0.out) (by (with_reducible repeat (first | apply Kd.R_alloc | apply Kd.R_drewN | apply Kd.R_drew));exact HO_5.out) (by decide)) hk (fun _ h => h.2)) (fun _ h => h.1))
      have n1_ := Aside0.mk (Kd.R_mono (Kd.R_keep (IsS119.apart (show IsS119 w0 _ g s0_0 t362 t363 from gI119_ HI0.out) (by (with_reducible repeat (first | apply Kd.R_alloc | apply Kd.R_drewN | apply Kd.R_drew));exact HO_6.out) (by decide)) hk (fun _ h => h.2)) (fun _ h => h.1))
      have n2_ := Aside0.mk (Kd.S_mono (Kd.S_keep (Kd.S_mono (ok := fun k_ => ((((w.heap.size ≤ k_)) ∧ (some k_ ≠ (u5 : Value).ownBlock ∧ (some k_ ≠ (u6 : Value).ownBlock ∧ (k_ ≠ gb338 ∧ (k_ ≠ gb342 ∧ k_ ≠ g))))) ∧ some k_ ≠ (.slice Ao25 y355.length co25 : Value).ownBlock)) (by (with_reducible repeat (first | apply Kd.S_alloc | apply Kd.S_drewN | apply Kd.S_drew));exact HO_343000.out) (fun k_ hk_ => (⟨hk_,hk_.1.2.2.2.2.2⟩ : _ ∧ k_ ≠ g))) hk (fun _ h => h.2)) (fun _ h => h.1))
      have n3_ := Aside0.mk (KeepBut.blk hk (g' := gb338) (o := .cells #[.slice none 0 0] 24 (0,0)) (by (with_reducible repeat (first | refine blk_drewN ?_ _ | refine blk_drew ?_ | refine blk_alloc ?_ _));exact BK338.out) NB338_0.out (by simp))
      have n4_ := Aside0.mk (KeepBut.blk hk (g' := gb342) (o := .cells #[u343000] 24 (0,0)) (by (with_reducible repeat (first | refine blk_drewN ?_ _ | refine blk_drew ?_ | refine blk_alloc ?_ _));exact BK342.out) NB342_0.out (by simp))
      have n5_ := Aside0.mk (Kd.R_mono (Kd.R_keep (IsS119.apart (show IsS119 w0 _ g s0_0 t362 t363 from gI119_ HI0.out) (by (with_reducible repeat (first | apply Kd.R_alloc | apply Kd.R_drewN | apply Kd.R_drew));exact HO357.out) (by decide)) hk (fun _ h => h.2)) (fun _ h => h.1))
      have n6_ := Aside0.mk (KeepBut.trans (gK_ HK.out) hk (.inl rfl))
      have n7_ := Aside0.mk (hb)
      have n8_ := Aside0.mk (hi)
      clear HO_5
      clear HO_6
      clear HO_343000
      clear BK338
      clear BK342
      clear HO357
      clear HK
      clear HB
      clear HI0
      have HO_5 := n0_
      have HO_6 := n1_
      have HO_343000 := n2_
      have BK338 := n3_
      have BK342 := n4_
      have HO357 := n5_
      have HK := n6_
      have HB := n7_
      have HI0 := n8_
      clear n0_ n1_ n2_ n3_ n4_ n5_ n6_ n7_ n8_
      (try clear hb)
      (try clear hb2)
      (try clear hk)
      (try clear hi)
      obtain ⟨Ao30,co30,eo30⟩ := Kd.S_slice HO_343000.out
      (first | subst eo30 | (injection eo30 with f1_ f2_ f3_;have f4_ := f1_.symm;have f5_ := f3_.symm;clear f1_ f2_ f3_;subst f4_;subst f5_))
      obtain ⟨Ao31,co31,eo31⟩ := Kd.R_slice HO_5.out
      (first | subst eo31 | (injection eo31 with f1_ f2_ f3_;have f4_ := f1_.symm;have f5_ := f3_.symm;clear f1_ f2_ f3_;subst f4_;subst f5_))
      refine hK.out _ _ ((blk_cell BK342.out 0).trans rfl) (fun hHeld => ?_)
      clear hK K
      refine norm_ (a' := ?_) ?_ ?_
      rotate_left
      ·show Act.put _ (some 42) _ = _
       simp only [Act.put,List.setIfInBounds_toArray,List.set_cons_zero,List.set_cons_succ,i64_w,i32_w]
       rfl
      refine oN_ 6 (some 43) (mk_ 12 127) (fun K hK => ?_)
      refine gO_ Try.func43 #[.agg #[.slice Ao30 x343000_1.length co30],.slice Ao31 x5_1.length co31,.int .i64 t358,.int .i64 x8_1,.bool t364] ?_
      with_reducible refine (spec_Store.callsS k1 _ _ x343000_1 _ _ x5_1 t358 x8_1 t364 t367 t370 _ ?side1 ?side2 ?side3 ?side4 A22.out).mono ?_
      (case side1 => exact cS_ (Kd.S_reads' HO_343000.out).2.2)
      (case side2 => exact (Kd.S_reads' HO_343000.out).2.1)
      (case side3 => exact cS_ (Kd.R_reads' HO_5.out).2.2)
      (case side4 => exact (Kd.R_reads' HO_5.out).2.1)
      rintro e w32 ⟨v368,v371,rfl,ho0,ho1,hb⟩
      refine ⟨_,rfl,?_⟩
      have n0_ := Aside0.mk (Kd.R_elder' (by (with_reducible repeat (first | apply Kd.R_alloc | apply Kd.R_drewN | apply Kd.R_drew));exact HO_5.out) (Kd.R_base ho1) hb)
      have n1_ := Aside0.mk (Kd.R_elder' (by (with_reducible repeat (first | apply Kd.R_alloc | apply Kd.R_drewN | apply Kd.R_drew));exact HO_6.out) (Kd.R_base ho1) hb)
      have n2_ := Aside0.mk (Kd.S_elder' (by (with_reducible repeat (first | apply Kd.S_alloc | apply Kd.S_drewN | apply Kd.S_drew));exact HO_343000.out) (Kd.R_base ho1) hb)
      have n3_ := Aside0.mk (Kd.R_elder' (by (with_reducible repeat (first | apply Kd.R_alloc | apply Kd.R_drewN | apply Kd.R_drew));exact HO357.out) (Kd.R_base ho1) hb)
      have n4_ := Aside0.mk (Kd.S_lower (Kd.S_mono (ok' := fun k_ => (w.heap.size ≤ k_) ∧ some k_ ≠ (v371 : Value).ownBlock ∧ some k_ ≠ (.slice Ao31 x5_1.length co31 : Value).ownBlock ∧ some k_ ≠ (u6 : Value).ownBlock ∧ some k_ ≠ (.slice Ao25 y355.length co25 : Value).ownBlock ∧ k_ ≠ gb338 ∧ k_ ≠ gb342 ∧ k_ ≠ g) ho0 (fun k_ hk_ => ⟨(Nat.le_trans (keep_size (w := w) (g := g) (row := none) (gK_ HK.out)) hk_.1),hk_.2,(Kd.fresh' (Kd.R_lt (by (with_reducible repeat (first | apply Kd.R_alloc | apply Kd.R_drewN | apply Kd.R_drew));exact HO_5.out)) k_ hk_.1),(Kd.fresh' (Kd.R_lt (by (with_reducible repeat (first | apply Kd.R_alloc | apply Kd.R_drewN | apply Kd.R_drew));exact HO_6.out)) k_ hk_.1),(Kd.fresh' (Kd.R_lt (by (with_reducible repeat (first | apply Kd.R_alloc | apply Kd.R_drewN | apply Kd.R_drew));exact HO357.out)) k_ hk_.1),(Kd.freshB (g := gb338) (o := .cells #[.slice none 0 0] 24 (0,0)) (by (with_reducible repeat (first | refine blk_drewN ?_ _ | refine blk_drew ?_ | refine blk_alloc ?_ _));exact BK338.out) k_ hk_.1),(Kd.freshB (g := gb342) (o := .cells #[.slice Ao30 x343000_1.length co30] 24 (0,0)) (by (with_reducible repeat (first | refine blk_drewN ?_ _ | refine blk_drew ?_ | refine blk_alloc ?_ _));exact BK342.out) k_ hk_.1),(IsS119.fresh (gI119_ HI0.out) k_ hk_.1)⟩)) (keep_size (w := w) (g := g) (row := none) (gK_ HK.out)))
      have n5_ := Aside0.mk (Kd.R_lower (Kd.R_new' (Kd.R_new' (Kd.R_new' (Kd.R_newM (M := fun k_ => (w.heap.size ≤ k_)) (Kd.R_mono (ok' := fun k_ => True) ho1 (fun _ hk_ => trivial)) (keep_size (w := w) (g := g) (row := none) (gK_ HK.out)) (fun k_ h_ => h_)) (Kd.R_lt (by (with_reducible repeat (first | apply Kd.R_alloc | apply Kd.R_drewN | apply Kd.R_drew));exact HO_5.out))) (Kd.R_lt (by (with_reducible repeat (first | apply Kd.R_alloc | apply Kd.R_drewN | apply Kd.R_drew));exact HO_6.out))) (Kd.R_lt (by (with_reducible repeat (first | apply Kd.R_alloc | apply Kd.R_drewN | apply Kd.R_drew));exact HO357.out))) (keep_size (w := w) (g := g) (row := none) (gK_ HK.out)))
      have n6_ := Aside0.mk (nB_ BK338.out hb)
      have n7_ := Aside0.mk (nB_ BK342.out hb)
      have n8_ := Aside0.mk (IsS119.below (gI119_ HI0.out) hb)
      have n9_ := Aside0.mk (KeepBut.trans (gK_ HK.out) (KeepBut.of_below hb g none) (.inl rfl))
      have n10_ := Aside0.mk (below_step (gB119_ HB.out) hb)
      clear HO_5
      clear HO_6
      clear HO_343000
      clear HO357
      clear BK338
      clear BK342
      clear HI0
      clear HK
      clear HB
      have HO_5 := n0_
      have HO_6 := n1_
      have HO_343000 := n2_
      have HO357 := n3_
      have HO369 := n4_
      have HO372 := n5_
      have BK338 := n6_
      have BK342 := n7_
      have HI0 := n8_
      have HK := n9_
      have HB := n10_
      clear n0_ n1_ n2_ n3_ n4_ n5_ n6_ n7_ n8_ n9_ n10_
      (try clear hb)
      (try clear hb2)
      (try clear hk)
      (try clear hi)
      (try clear ho0)
      (try clear ho1)
      obtain ⟨Ao33,co33,eo33⟩ := Kd.S_slice HO369.out
      (first | subst eo33 | (injection eo33 with f1_ f2_ f3_;have f4_ := f1_.symm;have f5_ := f3_.symm;clear f1_ f2_ f3_;subst f4_;subst f5_))
      refine hK.out _ _ ((blk_cell BK342.out 0).trans rfl) (fun hHeld => ?_)
      clear hK K
      refine norm_ (a' := ?_) ?_ ?_
      rotate_left
      ·show Act.put _ (some 43) _ = _
       simp only [Act.put,List.setIfInBounds_toArray,List.set_cons_zero,List.set_cons_succ,i64_w,i32_w]
       rfl
      refine pU_ 7 (some 36) (mk_ 12 255) ?_
      refine pU_ 8 (some 44) (mk_ 12 511) ?_
      refine pU_ 9 (some 45) (mk_ 12 1023) ?_
      refine last_ (i := 10) (N := none) #[true,true,true,true,true,true,true,true,true,true,true,false] rfl rfl (one_of HT_.out (by kernel_rfl)) (by decide) (fun K hK => ?_)
      have hs34 : w32.cell? ⟨gb342,0,none⟩ = some (.slice Ao30 x343000_1.length co30) := (blk_cell BK342.out 0).trans rfl
      have hfs34 := blk_frozen BK342.out 0
      have hns34_0 := NB338_342.out
      have hms34_0 := NB342_338.out
      refine skip_ (w1 := ?_) (by rfl) rfl ?_ ?_
      rotate_left
      ·go_simp
       rfl
      refine hK.out _ _ ?_
      clear hK K
      refine pU_ 11 (some 5) (mk_ 12 4095) ?_
      refine done_ (done_of HT_.out (by kernel_rfl)) ?_
      try go_wp2
      go_roundg k1
      case measure => have := HK1.out;omega
      case rel => exact ⟨(t370),(x6_1),(wrap64 (x8_1 + 1)),(t365),(t366),(t367),(.slice Ao33 t367.length co33),(by first | rfl | (simp;done) | (simp [*];done)),H',⟨by have := HK1.out;omega⟩,⟨by (with_reducible repeat (first | apply Kd.R_alloc | apply Kd.R_drewN | apply Kd.R_drew));exact Kd.R_mono (Kd.R_far (p := ⟨gb342,0,none⟩) (Kd.R_types HO372.out BK342.out (by decide)) (fun _ hk => hk.2) (.slice Ao33 t367.length co33)) (fun _ hk => ⟨hk.1.1.1.1.1,hk.1.1.2⟩)⟩,⟨by (with_reducible repeat (first | apply Kd.R_alloc | apply Kd.R_drewN | apply Kd.R_drew));exact Kd.R_mono (Kd.R_far (p := ⟨gb342,0,none⟩) (Kd.R_types HO_6.out BK342.out (by decide)) (fun _ hk => hk.2) (.slice Ao33 t367.length co33)) (fun _ hk => ⟨hk.1.1.1.1,hk.1.2⟩)⟩,⟨by (with_reducible repeat (first | apply Kd.S_alloc | apply Kd.S_drewN | apply Kd.S_drew));exact Kd.S_mono (Kd.S_far (p := ⟨gb342,0,none⟩) (Kd.S_mono HO369.out (fun k_ hk => (⟨hk,hk.2.2.2.2.2.2.1⟩ : _ ∧ k_ ≠ gb342))) (fun _ hk => hk.2) (.slice Ao33 t367.length co33)) (fun _ hk => ⟨hk.1.1,⟨hk.1.2.1,⟨hk.1.2.2.2.1,⟨hk.1.2.2.2.2.2.1,⟨hk.1.2.2.2.2.2.2.1,hk.1.2.2.2.2.2.2.2⟩⟩⟩⟩⟩)⟩,⟨by (with_reducible repeat (first | refine blk_drewN ?_ _ | refine blk_drew ?_ | refine blk_alloc ?_ _));refine blk_far ?_ NB338_342.out _;(with_reducible repeat (first | refine blk_drewN ?_ _ | refine blk_drew ?_ | refine blk_alloc ?_ _));exact BK338.out⟩,⟨by (with_reducible repeat (first | refine blk_drewN ?_ _ | refine blk_drew ?_ | refine blk_alloc ?_ _));refine blk_put (cs := #[.slice Ao30 x343000_1.length co30]) ?_ 0 _ rfl;(with_reducible repeat (first | refine blk_drewN ?_ _ | refine blk_drew ?_ | refine blk_alloc ?_ _));exact BK342.out⟩,⟨gI119_ HI0.out⟩,⟨gK_ HK.out⟩,⟨gB119_ HB.out⟩⟩
     ·rw [if_neg c20] at H
      have c20b0 : (t361 == 0) = false := beq_eq_false_iff_ne.mpr c20
      have c20b1 : (t361 != 0) = true := bne_iff_ne.mpr c20
      by_cases c35 : t361 = 1
      ·rw [if_pos c35] at H
       have c35b0 : (t361 == 1) = true := beq_iff_eq.mpr c35
       have c35b1 : (t361 != 1) = false := bne_eq_false_iff_eq.mpr c35
       clear c35
       replace H := Option.bind_eq_some_iff.mp H
       obtain ⟨⟨t373,t374,t375⟩,A360,H⟩ := H
       replace H : ((spec_Store.f k1 x343000_1 x6_1 t358 x8_1 t373).bind fun bt376 => (spec_l6DrawRight.l0 k1 x5_1 bt376.2 t349 (wrap64 (x8_1 + 1)) s0_0 t374 t375 bt376.1)) = some (r1,r2,r3,r4) := H
       have A36 := Aside0.mk A360
       clear A360
       replace H := Option.bind_eq_some_iff.mp H
       obtain ⟨⟨t376,t379⟩,A370,H⟩ := H
       replace H : (spec_l6DrawRight.l0 k1 x5_1 t379 t349 (wrap64 (x8_1 + 1)) s0_0 t374 t375 t376) = some (r1,r2,r3,r4) := H
       have A37 := Aside0.mk A370
       clear A370
       have H' := Aside0.mk H
       clear H
       try go_wp2_with (first | ((with_reducible refine gate_dst (N := 21) rfl ?_);refine Kd.R_lit (Kd.int .i64) _ 3 ?hg (N := 21) ?hd (xs := ([0,1,2,5,23] : List Int)) (inner := [.int .i64 0,.int .i64 1,.int .i64 2,.int .i64 5,.int .i64 23]) (ok := fun _ => True) (okp := fun _ => True) ?hr ?hp (fun _ hk => hk) trivial (Below.refl _ _) (Nat.le_refl _) (by simp) ?_;(case hd => rfl);(case hg => rfl);(case hr => first | (go_simp;done) | (go_simp;rfl));(case hp => exact (Reps.one (show Kd.M (Kd.int .i64) _ _ _ 0 [.int .i64 0] from rfl) (Reps.one (show Kd.M (Kd.int .i64) _ _ _ 1 [.int .i64 1] from rfl) (Reps.one (show Kd.M (Kd.int .i64) _ _ _ 2 [.int .i64 2] from rfl) (Reps.one (show Kd.M (Kd.int .i64) _ _ _ 5 [.int .i64 5] from rfl) (Reps.one (show Kd.M (Kd.int .i64) _ _ _ 23 [.int .i64 23] from rfl) (Reps.none _ _)))))));intro v356 w38 ho39 hb hg_ hnew_;clear hg_ hnew_;(first | rw [← Ny355.out] at ho39 | (simp only [Int.reduceToNat] at ho39;rw [← Ny355.out] at ho39));have n0_ := Aside0.mk (Kd.R_elder' (by (with_reducible repeat (first | apply Kd.R_alloc | apply Kd.R_drewN | apply Kd.R_drew));exact HO_5.out) (Kd.R_base ho39) hb);have n1_ := Aside0.mk (Kd.R_elder' (by (with_reducible repeat (first | apply Kd.R_alloc | apply Kd.R_drewN | apply Kd.R_drew));exact HO_6.out) (Kd.R_base ho39) hb);have n2_ := Aside0.mk (Kd.S_elder' (by (with_reducible repeat (first | apply Kd.S_alloc | apply Kd.S_drewN | apply Kd.S_drew));exact HO_343000.out) (Kd.R_base ho39) hb);have n3_ := Aside0.mk (Kd.R_lower (Kd.R_new' (Kd.R_new' (Kd.R_newM (M := fun k_ => (w.heap.size ≤ k_)) ho39 (keep_size (w := w) (g := g) (row := none) (gK_ HK.out)) (fun k_ h_ => h_)) (Kd.R_lt (by (with_reducible repeat (first | apply Kd.R_alloc | apply Kd.R_drewN | apply Kd.R_drew));exact HO_5.out))) (Kd.R_lt (by (with_reducible repeat (first | apply Kd.R_alloc | apply Kd.R_drewN | apply Kd.R_drew));exact HO_6.out))) (keep_size (w := w) (g := g) (row := none) (gK_ HK.out)));have n4_ := Aside0.mk (nB_ BK338.out hb);have n5_ := Aside0.mk (nB_ BK342.out hb);have n6_ := Aside0.mk (IsS119.below (gI119_ HI0.out) hb);have n7_ := Aside0.mk (KeepBut.trans (gK_ HK.out) (KeepBut.of_below hb g none) (.inl rfl));have n8_ := Aside0.mk (below_step (gB119_ HB.out) hb);clear HO_5;clear HO_6;clear HO_343000;clear BK338;clear BK342;clear HI0;clear HK;clear HB;have HO_5 := n0_;have HO_6 := n1_;have HO_343000 := n2_;have HO357 := n3_;have BK338 := n4_;have BK342 := n5_;have HI0 := n6_;have HK := n7_;have HB := n8_;clear n0_ n1_ n2_ n3_ n4_ n5_ n6_ n7_ n8_;clear hb ho39;obtain ⟨Ao40,co40,eo40⟩ := Kd.R_slice HO357.out;subst eo40) | ((with_reducible refine gate_callee (f := 66) rfl ?_);refine gL_ (some 22) Try.func66 #[.pointer (some ⟨g,0,none⟩),.slice Ao40 y355.length co40] ?_;(with_reducible refine (spec_l1PickInt.calls g s0_0 x1001_1 x1002_1 _ _ y355 t358 t359 t360 w0 _ ?side1 ?side2 ?side3 ?side4 ?side5 A18.out).mono ?_);(case side1 => exact gI119_ HI0.out);(case side2 => exact gB119_ HB.out);(case side3 => exact cS_ (Kd.R_reads' HO357.out).2.2);(case side4 => exact (Kd.R_reads' HO357.out).2.1);(case side5 => exact far_slice (IsS119.own_ne HI0.out HO357.out (by decide)));rintro e w41 ⟨rfl,hi,hb,hk⟩;refine ⟨_,rfl,?_⟩;have n0_ := Aside0.mk (Kd.R_mono (Kd.R_keep (IsS119.apart (show IsS119 w0 _ g s0_0 x1001_1 x1002_1 from gI119_ HI0.out) (by (with_reducible repeat (first | apply Kd.R_alloc | apply Kd.R_drewN | apply Kd.R_drew));exact HO_5.out) (by decide)) hk (fun _ h => h.2)) (fun _ h => h.1));have n1_ := Aside0.mk (Kd.R_mono (Kd.R_keep (IsS119.apart (show IsS119 w0 _ g s0_0 x1001_1 x1002_1 from gI119_ HI0.out) (by (with_reducible repeat (first | apply Kd.R_alloc | apply Kd.R_drewN | apply Kd.R_drew));exact HO_6.out) (by decide)) hk (fun _ h => h.2)) (fun _ h => h.1));have n2_ := Aside0.mk (Kd.S_mono (Kd.S_keep (Kd.S_mono (ok := fun k_ => ((((w.heap.size ≤ k_)) ∧ (some k_ ≠ (u5 : Value).ownBlock ∧ (some k_ ≠ (u6 : Value).ownBlock ∧ (k_ ≠ gb338 ∧ (k_ ≠ gb342 ∧ k_ ≠ g))))) ∧ some k_ ≠ (.slice Ao40 y355.length co40 : Value).ownBlock)) (by (with_reducible repeat (first | apply Kd.S_alloc | apply Kd.S_drewN | apply Kd.S_drew));exact HO_343000.out) (fun k_ hk_ => (⟨hk_,hk_.1.2.2.2.2.2⟩ : _ ∧ k_ ≠ g))) hk (fun _ h => h.2)) (fun _ h => h.1));have n3_ := Aside0.mk (KeepBut.blk hk (g' := gb338) (o := .cells #[.slice none 0 0] 24 (0,0)) (by (with_reducible repeat (first | refine blk_drewN ?_ _ | refine blk_drew ?_ | refine blk_alloc ?_ _));exact BK338.out) NB338_0.out (by simp));have n4_ := Aside0.mk (KeepBut.blk hk (g' := gb342) (o := .cells #[u343000] 24 (0,0)) (by (with_reducible repeat (first | refine blk_drewN ?_ _ | refine blk_drew ?_ | refine blk_alloc ?_ _));exact BK342.out) NB342_0.out (by simp));have n5_ := Aside0.mk (Kd.R_mono (Kd.R_keep (IsS119.apart (show IsS119 w0 _ g s0_0 x1001_1 x1002_1 from gI119_ HI0.out) (by (with_reducible repeat (first | apply Kd.R_alloc | apply Kd.R_drewN | apply Kd.R_drew));exact HO357.out) (by decide)) hk (fun _ h => h.2)) (fun _ h => h.1));have n6_ := Aside0.mk (KeepBut.trans (gK_ HK.out) hk (.inl rfl));have n7_ := Aside0.mk (hb);have n8_ := Aside0.mk (hi);clear HO_5;clear HO_6;clear HO_343000;clear BK338;clear BK342;clear HO357;clear HK;clear HB;clear HI0;have HO_5 := n0_;have HO_6 := n1_;have HO_343000 := n2_;have BK338 := n3_;have BK342 := n4_;have HO357 := n5_;have HK := n6_;have HB := n7_;have HI0 := n8_;clear n0_ n1_ n2_ n3_ n4_ n5_ n6_ n7_ n8_;(try clear hb);(try clear hb2);(try clear hk);(try clear hi)) | ((with_reducible refine gate_callee (f := 84) rfl ?_);refine gL_ (some 24) Try.func84 #[.pointer (some ⟨g,0,none⟩),.int .i64 5] ?_;(with_reducible refine (spec_l1Below.calls g s0_0 t359 t360 5 t361 t362 t363 w0 _ ?side1 ?side2 A19.out).mono ?_);(case side1 => exact gI119_ HI0.out);(case side2 => exact gB119_ HB.out);rintro e w42 ⟨rfl,hi,hb,hk⟩;refine ⟨_,rfl,?_⟩;have n0_ := Aside0.mk (Kd.R_mono (Kd.R_keep (IsS119.apart (show IsS119 w0 _ g s0_0 t359 t360 from gI119_ HI0.out) (by (with_reducible repeat (first | apply Kd.R_alloc | apply Kd.R_drewN | apply Kd.R_drew));exact HO_5.out) (by decide)) hk (fun _ h => h.2)) (fun _ h => h.1));have n1_ := Aside0.mk (Kd.R_mono (Kd.R_keep (IsS119.apart (show IsS119 w0 _ g s0_0 t359 t360 from gI119_ HI0.out) (by (with_reducible repeat (first | apply Kd.R_alloc | apply Kd.R_drewN | apply Kd.R_drew));exact HO_6.out) (by decide)) hk (fun _ h => h.2)) (fun _ h => h.1));have n2_ := Aside0.mk (Kd.S_mono (Kd.S_keep (Kd.S_mono (ok := fun k_ => ((((w.heap.size ≤ k_)) ∧ (some k_ ≠ (u5 : Value).ownBlock ∧ (some k_ ≠ (u6 : Value).ownBlock ∧ (k_ ≠ gb338 ∧ (k_ ≠ gb342 ∧ k_ ≠ g))))) ∧ some k_ ≠ (.slice Ao40 y355.length co40 : Value).ownBlock)) (by (with_reducible repeat (first | apply Kd.S_alloc | apply Kd.S_drewN | apply Kd.S_drew));exact HO_343000.out) (fun k_ hk_ => (⟨hk_,hk_.1.2.2.2.2.2⟩ : _ ∧ k_ ≠ g))) hk (fun _ h => h.2)) (fun _ h => h.1));have n3_ := Aside0.mk (KeepBut.blk hk (g' := gb338) (o := .cells #[.slice none 0 0] 24 (0,0)) (by (with_reducible repeat (first | refine blk_drewN ?_ _ | refine blk_drew ?_ | refine blk_alloc ?_ _));exact BK338.out) NB338_0.out (by simp));have n4_ := Aside0.mk (KeepBut.blk hk (g' := gb342) (o := .cells #[u343000] 24 (0,0)) (by (with_reducible repeat (first | refine blk_drewN ?_ _ | refine blk_drew ?_ | refine blk_alloc ?_ _));exact BK342.out) NB342_0.out (by simp));have n5_ := Aside0.mk (Kd.R_mono (Kd.R_keep (IsS119.apart (show IsS119 w0 _ g s0_0 t359 t360 from gI119_ HI0.out) (by (with_reducible repeat (first | apply Kd.R_alloc | apply Kd.R_drewN | apply Kd.R_drew));exact HO357.out) (by decide)) hk (fun _ h => h.2)) (fun _ h => h.1));have n6_ := Aside0.mk (KeepBut.trans (gK_ HK.out) hk (.inl rfl));have n7_ := Aside0.mk (hb);have n8_ := Aside0.mk (hi);clear HO_5;clear HO_6;clear HO_343000;clear BK338;clear BK342;clear HO357;clear HK;clear HB;clear HI0;have HO_5 := n0_;have HO_6 := n1_;have HO_343000 := n2_;have BK338 := n3_;have BK342 := n4_;have HO357 := n5_;have HK := n6_;have HB := n7_;have HI0 := n8_;clear n0_ n1_ n2_ n3_ n4_ n5_ n6_ n7_ n8_;(try clear hb);(try clear hb2);(try clear hk);(try clear hi)))
       have n0_ := Aside0.mk (Kd.R_drew HO_5.out)
       have n1_ := Aside0.mk (Kd.R_drew HO_6.out)
       have n2_ := Aside0.mk (Kd.S_drew HO_343000.out)
       have n3_ := Aside0.mk (Kd.R_drew HO357.out)
       have n4_ := Aside0.mk (blk_drew BK338.out)
       have n5_ := Aside0.mk (blk_drew BK342.out)
       have n6_ := Aside0.mk (IsS119.drew HI0.out)
       have n7_ := Aside0.mk (keep_drew HK.out)
       have n8_ := Aside0.mk (below_drew1 HB.out)
       clear HO_5
       clear HO_6
       clear HO_343000
       clear HO357
       clear BK338
       clear BK342
       clear HI0
       clear HK
       clear HB
       have HO_5 := n0_
       have HO_6 := n1_
       have HO_343000 := n2_
       have HO357 := n3_
       have BK338 := n4_
       have BK342 := n5_
       have HI0 := n6_
       have HK := n7_
       have HB := n8_
       clear n0_ n1_ n2_ n3_ n4_ n5_ n6_ n7_ n8_
       refine start_ (n := 12) (S := fun w' => w'.cell? ⟨gb342,0,none⟩ = some (u343000)) (ds := [10]) #[false,false,false,false,false,false,false,false,false,false,false,false] (by kernel_rfl) rfl rfl ((blk_cell BK342.out 0).trans rfl) (fun hHeld => ?_);refine with_tabW spec_l6DrawRight.tab14 spec_l6DrawRight.bits14 (fun HT_ HW_ => ?_)
       generalize w42.drew = w43 at HO_5 HO_6 HO_343000 HO357 BK338 BK342 HI0 HK HB hHeld ⊢
       refine pU_ 1 (some 50) (mk_ 12 2) ?_
       refine pU_ 2 (some 51) (mk_ 12 6) ?_
       refine pU_ 3 (some 52) (mk_ 12 14) ?_
       refine pU_ 4 (some 53) (mk_ 12 30) ?_
       refine take_ (i := 0) (N := some 49) (v := ?_) (a' := ?_) #[true,true,true,true,true,false,false,false,false,false,false,false] rfl rfl (take_ofW HT_.out HW_.out (by kernel_rfl)) (fun _ _ _ h => h) (Or.inl ⟨by rfl,?_⟩) hHeld ?_ ?_
       rotate_left
       ·intro w' s0
        go_simp
        with_reducible rfl
       rotate_left
       ·simp only [Act.put,List.setIfInBounds_toArray,List.set_cons_zero,List.set_cons_succ,i64_w,i32_w]
        rfl
       refine oN_ 5 (some 54) (mk_ 12 63) (fun K hK => ?_)
       refine gO_ Try.func67 #[.pointer (some ⟨g,0,none⟩),.int .i64 2] ?_
       with_reducible refine (spec_l1Once.calls g s0_0 t362 t363 2 t373 t374 t375 w0 _ ?side1 ?side2 A36.out).mono ?_
       (case side1 => exact gI119_ HI0.out)
       (case side2 => exact gB119_ HB.out)
       rintro e w44 ⟨rfl,hi,hb,hk⟩
       refine ⟨_,rfl,?_⟩
       have n0_ := Aside0.mk (Kd.R_mono (Kd.R_keep (IsS119.apart (show IsS119 w0 _ g s0_0 t362 t363 from gI119_ HI0.out) (by (with_reducible repeat (first | apply Kd.R_alloc | apply Kd.R_drewN | apply Kd.R_drew));exact HO_5.out) (by decide)) hk (fun _ h => h.2)) (fun _ h => h.1))
       have n1_ := Aside0.mk (Kd.R_mono (Kd.R_keep (IsS119.apart (show IsS119 w0 _ g s0_0 t362 t363 from gI119_ HI0.out) (by (with_reducible repeat (first | apply Kd.R_alloc | apply Kd.R_drewN | apply Kd.R_drew));exact HO_6.out) (by decide)) hk (fun _ h => h.2)) (fun _ h => h.1))
       have n2_ := Aside0.mk (Kd.S_mono (Kd.S_keep (Kd.S_mono (ok := fun k_ => ((((w.heap.size ≤ k_)) ∧ (some k_ ≠ (u5 : Value).ownBlock ∧ (some k_ ≠ (u6 : Value).ownBlock ∧ (k_ ≠ gb338 ∧ (k_ ≠ gb342 ∧ k_ ≠ g))))) ∧ some k_ ≠ (.slice Ao40 y355.length co40 : Value).ownBlock)) (by (with_reducible repeat (first | apply Kd.S_alloc | apply Kd.S_drewN | apply Kd.S_drew));exact HO_343000.out) (fun k_ hk_ => (⟨hk_,hk_.1.2.2.2.2.2⟩ : _ ∧ k_ ≠ g))) hk (fun _ h => h.2)) (fun _ h => h.1))
       have n3_ := Aside0.mk (KeepBut.blk hk (g' := gb338) (o := .cells #[.slice none 0 0] 24 (0,0)) (by (with_reducible repeat (first | refine blk_drewN ?_ _ | refine blk_drew ?_ | refine blk_alloc ?_ _));exact BK338.out) NB338_0.out (by simp))
       have n4_ := Aside0.mk (KeepBut.blk hk (g' := gb342) (o := .cells #[u343000] 24 (0,0)) (by (with_reducible repeat (first | refine blk_drewN ?_ _ | refine blk_drew ?_ | refine blk_alloc ?_ _));exact BK342.out) NB342_0.out (by simp))
       have n5_ := Aside0.mk (Kd.R_mono (Kd.R_keep (IsS119.apart (show IsS119 w0 _ g s0_0 t362 t363 from gI119_ HI0.out) (by (with_reducible repeat (first | apply Kd.R_alloc | apply Kd.R_drewN | apply Kd.R_drew));exact HO357.out) (by decide)) hk (fun _ h => h.2)) (fun _ h => h.1))
       have n6_ := Aside0.mk (KeepBut.trans (gK_ HK.out) hk (.inl rfl))
       have n7_ := Aside0.mk (hb)
       have n8_ := Aside0.mk (hi)
       clear HO_5
       clear HO_6
       clear HO_343000
       clear BK338
       clear BK342
       clear HO357
       clear HK
       clear HB
       clear HI0
       have HO_5 := n0_
       have HO_6 := n1_
       have HO_343000 := n2_
       have BK338 := n3_
       have BK342 := n4_
       have HO357 := n5_
       have HK := n6_
       have HB := n7_
       have HI0 := n8_
       clear n0_ n1_ n2_ n3_ n4_ n5_ n6_ n7_ n8_
       (try clear hb)
       (try clear hb2)
       (try clear hk)
       (try clear hi)
       obtain ⟨Ao45,co45,eo45⟩ := Kd.S_slice HO_343000.out
       (first | subst eo45 | (injection eo45 with f1_ f2_ f3_;have f4_ := f1_.symm;have f5_ := f3_.symm;clear f1_ f2_ f3_;subst f4_;subst f5_))
       obtain ⟨Ao46,co46,eo46⟩ := Kd.R_slice HO_6.out
       (first | subst eo46 | (injection eo46 with f1_ f2_ f3_;have f4_ := f1_.symm;have f5_ := f3_.symm;clear f1_ f2_ f3_;subst f4_;subst f5_))
       refine hK.out _ _ ((blk_cell BK342.out 0).trans rfl) (fun hHeld => ?_)
       clear hK K
       refine norm_ (a' := ?_) ?_ ?_
       rotate_left
       ·show Act.put _ (some 54) _ = _
        simp only [Act.put,List.setIfInBounds_toArray,List.set_cons_zero,List.set_cons_succ,i64_w,i32_w]
        rfl
       refine oN_ 6 (some 55) (mk_ 12 127) (fun K hK => ?_)
       refine gO_ Try.func43 #[.agg #[.slice Ao45 x343000_1.length co45],.slice Ao46 x6_1.length co46,.int .i64 t358,.int .i64 x8_1,.bool t373] ?_
       with_reducible refine (spec_Store.callsS k1 _ _ x343000_1 _ _ x6_1 t358 x8_1 t373 t376 t379 _ ?side1 ?side2 ?side3 ?side4 A37.out).mono ?_
       (case side1 => exact cS_ (Kd.S_reads' HO_343000.out).2.2)
       (case side2 => exact (Kd.S_reads' HO_343000.out).2.1)
       (case side3 => exact cS_ (Kd.R_reads' HO_6.out).2.2)
       (case side4 => exact (Kd.R_reads' HO_6.out).2.1)
       rintro e w47 ⟨v377,v380,rfl,ho0,ho1,hb⟩
       refine ⟨_,rfl,?_⟩
       have n0_ := Aside0.mk (Kd.R_elder' (by (with_reducible repeat (first | apply Kd.R_alloc | apply Kd.R_drewN | apply Kd.R_drew));exact HO_5.out) (Kd.R_base ho1) hb)
       have n1_ := Aside0.mk (Kd.R_elder' (by (with_reducible repeat (first | apply Kd.R_alloc | apply Kd.R_drewN | apply Kd.R_drew));exact HO_6.out) (Kd.R_base ho1) hb)
       have n2_ := Aside0.mk (Kd.S_elder' (by (with_reducible repeat (first | apply Kd.S_alloc | apply Kd.S_drewN | apply Kd.S_drew));exact HO_343000.out) (Kd.R_base ho1) hb)
       have n3_ := Aside0.mk (Kd.R_elder' (by (with_reducible repeat (first | apply Kd.R_alloc | apply Kd.R_drewN | apply Kd.R_drew));exact HO357.out) (Kd.R_base ho1) hb)
       have n4_ := Aside0.mk (Kd.S_lower (Kd.S_mono (ok' := fun k_ => (w.heap.size ≤ k_) ∧ some k_ ≠ (v380 : Value).ownBlock ∧ some k_ ≠ (u5 : Value).ownBlock ∧ some k_ ≠ (.slice Ao46 x6_1.length co46 : Value).ownBlock ∧ some k_ ≠ (.slice Ao40 y355.length co40 : Value).ownBlock ∧ k_ ≠ gb338 ∧ k_ ≠ gb342 ∧ k_ ≠ g) ho0 (fun k_ hk_ => ⟨(Nat.le_trans (keep_size (w := w) (g := g) (row := none) (gK_ HK.out)) hk_.1),hk_.2,(Kd.fresh' (Kd.R_lt (by (with_reducible repeat (first | apply Kd.R_alloc | apply Kd.R_drewN | apply Kd.R_drew));exact HO_5.out)) k_ hk_.1),(Kd.fresh' (Kd.R_lt (by (with_reducible repeat (first | apply Kd.R_alloc | apply Kd.R_drewN | apply Kd.R_drew));exact HO_6.out)) k_ hk_.1),(Kd.fresh' (Kd.R_lt (by (with_reducible repeat (first | apply Kd.R_alloc | apply Kd.R_drewN | apply Kd.R_drew));exact HO357.out)) k_ hk_.1),(Kd.freshB (g := gb338) (o := .cells #[.slice none 0 0] 24 (0,0)) (by (with_reducible repeat (first | refine blk_drewN ?_ _ | refine blk_drew ?_ | refine blk_alloc ?_ _));exact BK338.out) k_ hk_.1),(Kd.freshB (g := gb342) (o := .cells #[.slice Ao45 x343000_1.length co45] 24 (0,0)) (by (with_reducible repeat (first | refine blk_drewN ?_ _ | refine blk_drew ?_ | refine blk_alloc ?_ _));exact BK342.out) k_ hk_.1),(IsS119.fresh (gI119_ HI0.out) k_ hk_.1)⟩)) (keep_size (w := w) (g := g) (row := none) (gK_ HK.out)))
       have n5_ := Aside0.mk (Kd.R_lower (Kd.R_new' (Kd.R_new' (Kd.R_new' (Kd.R_newM (M := fun k_ => (w.heap.size ≤ k_)) (Kd.R_mono (ok' := fun k_ => True) ho1 (fun _ hk_ => trivial)) (keep_size (w := w) (g := g) (row := none) (gK_ HK.out)) (fun k_ h_ => h_)) (Kd.R_lt (by (with_reducible repeat (first | apply Kd.R_alloc | apply Kd.R_drewN | apply Kd.R_drew));exact HO_5.out))) (Kd.R_lt (by (with_reducible repeat (first | apply Kd.R_alloc | apply Kd.R_drewN | apply Kd.R_drew));exact HO_6.out))) (Kd.R_lt (by (with_reducible repeat (first | apply Kd.R_alloc | apply Kd.R_drewN | apply Kd.R_drew));exact HO357.out))) (keep_size (w := w) (g := g) (row := none) (gK_ HK.out)))
       have n6_ := Aside0.mk (nB_ BK338.out hb)
       have n7_ := Aside0.mk (nB_ BK342.out hb)
       have n8_ := Aside0.mk (IsS119.below (gI119_ HI0.out) hb)
       have n9_ := Aside0.mk (KeepBut.trans (gK_ HK.out) (KeepBut.of_below hb g none) (.inl rfl))
       have n10_ := Aside0.mk (below_step (gB119_ HB.out) hb)
       clear HO_5
       clear HO_6
       clear HO_343000
       clear HO357
       clear BK338
       clear BK342
       clear HI0
       clear HK
       clear HB
       have HO_5 := n0_
       have HO_6 := n1_
       have HO_343000 := n2_
       have HO357 := n3_
       have HO378 := n4_
       have HO381 := n5_
       have BK338 := n6_
       have BK342 := n7_
       have HI0 := n8_
       have HK := n9_
       have HB := n10_
       clear n0_ n1_ n2_ n3_ n4_ n5_ n6_ n7_ n8_ n9_ n10_
       (try clear hb)
       (try clear hb2)
       (try clear hk)
       (try clear hi)
       (try clear ho0)
       (try clear ho1)
       obtain ⟨Ao48,co48,eo48⟩ := Kd.S_slice HO378.out
       (first | subst eo48 | (injection eo48 with f1_ f2_ f3_;have f4_ := f1_.symm;have f5_ := f3_.symm;clear f1_ f2_ f3_;subst f4_;subst f5_))
       refine hK.out _ _ ((blk_cell BK342.out 0).trans rfl) (fun hHeld => ?_)
       clear hK K
       refine norm_ (a' := ?_) ?_ ?_
       rotate_left
       ·show Act.put _ (some 55) _ = _
        simp only [Act.put,List.setIfInBounds_toArray,List.set_cons_zero,List.set_cons_succ,i64_w,i32_w]
        rfl
       refine pU_ 7 (some 48) (mk_ 12 255) ?_
       refine pU_ 8 (some 56) (mk_ 12 511) ?_
       refine pU_ 9 (some 57) (mk_ 12 1023) ?_
       refine last_ (i := 10) (N := none) #[true,true,true,true,true,true,true,true,true,true,true,false] rfl rfl (one_of HT_.out (by kernel_rfl)) (by decide) (fun K hK => ?_)
       have hs49 : w47.cell? ⟨gb342,0,none⟩ = some (.slice Ao45 x343000_1.length co45) := (blk_cell BK342.out 0).trans rfl
       have hfs49 := blk_frozen BK342.out 0
       have hns49_0 := NB338_342.out
       have hms49_0 := NB342_338.out
       refine skip_ (w1 := ?_) (by rfl) rfl ?_ ?_
       rotate_left
       ·go_simp
        rfl
       refine hK.out _ _ ?_
       clear hK K
       refine pU_ 11 (some 6) (mk_ 12 4095) ?_
       refine done_ (done_of HT_.out (by kernel_rfl)) ?_
       try go_wp2
       go_roundg k1
       case measure => have := HK1.out;omega
       case rel => exact ⟨(x5_1),(t379),(wrap64 (x8_1 + 1)),(t374),(t375),(t376),(.slice Ao48 t376.length co48),(by first | rfl | (simp;done) | (simp [*];done)),H',⟨by have := HK1.out;omega⟩,⟨by (with_reducible repeat (first | apply Kd.R_alloc | apply Kd.R_drewN | apply Kd.R_drew));exact Kd.R_mono (Kd.R_far (p := ⟨gb342,0,none⟩) (Kd.R_types HO_5.out BK342.out (by decide)) (fun _ hk => hk.2) (.slice Ao48 t376.length co48)) (fun _ hk => ⟨hk.1.1.1.1,hk.1.2⟩)⟩,⟨by (with_reducible repeat (first | apply Kd.R_alloc | apply Kd.R_drewN | apply Kd.R_drew));exact Kd.R_mono (Kd.R_far (p := ⟨gb342,0,none⟩) (Kd.R_types HO381.out BK342.out (by decide)) (fun _ hk => hk.2) (.slice Ao48 t376.length co48)) (fun _ hk => ⟨hk.1.1.1.1.1,hk.1.1.1.2⟩)⟩,⟨by (with_reducible repeat (first | apply Kd.S_alloc | apply Kd.S_drewN | apply Kd.S_drew));exact Kd.S_mono (Kd.S_far (p := ⟨gb342,0,none⟩) (Kd.S_mono HO378.out (fun k_ hk => (⟨hk,hk.2.2.2.2.2.2.1⟩ : _ ∧ k_ ≠ gb342))) (fun _ hk => hk.2) (.slice Ao48 t376.length co48)) (fun _ hk => ⟨hk.1.1,⟨hk.1.2.2.1,⟨hk.1.2.1,⟨hk.1.2.2.2.2.2.1,⟨hk.1.2.2.2.2.2.2.1,hk.1.2.2.2.2.2.2.2⟩⟩⟩⟩⟩)⟩,⟨by (with_reducible repeat (first | refine blk_drewN ?_ _ | refine blk_drew ?_ | refine blk_alloc ?_ _));refine blk_far ?_ NB338_342.out _;(with_reducible repeat (first | refine blk_drewN ?_ _ | refine blk_drew ?_ | refine blk_alloc ?_ _));exact BK338.out⟩,⟨by (with_reducible repeat (first | refine blk_drewN ?_ _ | refine blk_drew ?_ | refine blk_alloc ?_ _));refine blk_put (cs := #[.slice Ao45 x343000_1.length co45]) ?_ 0 _ rfl;(with_reducible repeat (first | refine blk_drewN ?_ _ | refine blk_drew ?_ | refine blk_alloc ?_ _));exact BK342.out⟩,⟨gI119_ HI0.out⟩,⟨gK_ HK.out⟩,⟨gB119_ HB.out⟩⟩
      ·rw [if_neg c35] at H
       have c35b0 : (t361 == 1) = false := beq_eq_false_iff_ne.mpr c35
       have c35b1 : (t361 != 1) = true := bne_iff_ne.mpr c35
       by_cases c50 : t361 = 2
       ·rw [if_pos c50] at H
        have c50b0 : (t361 == 2) = true := beq_iff_eq.mpr c50
        have c50b1 : (t361 != 2) = false := bne_eq_false_iff_eq.mpr c50
        clear c50
        replace H := Option.bind_eq_some_iff.mp H
        obtain ⟨⟨t382,t383,t384⟩,A510,H⟩ := H
        replace H : ((spec_l1Once.f s0_0 t383 t384 2).bind fun bt385 => ((spec_Load.f k1 x343000_1 x5_1 t358 t382 bt385.1).bind fun bt388 => (spec_l6DrawRight.l0 k1 bt388.2 x6_1 t349 (wrap64 (x8_1 + 1)) s0_0 bt385.2.1 bt385.2.2 x343000_1))) = some (r1,r2,r3,r4) := H
        have A51 := Aside0.mk A510
        clear A510
        replace H := Option.bind_eq_some_iff.mp H
        obtain ⟨⟨t385,t386,t387⟩,A520,H⟩ := H
        replace H : ((spec_Load.f k1 x343000_1 x5_1 t358 t382 t385).bind fun bt388 => (spec_l6DrawRight.l0 k1 bt388.2 x6_1 t349 (wrap64 (x8_1 + 1)) s0_0 t386 t387 x343000_1)) = some (r1,r2,r3,r4) := H
        have A52 := Aside0.mk A520
        clear A520
        replace H := Option.bind_eq_some_iff.mp H
        obtain ⟨⟨t388,t389⟩,A530,H⟩ := H
        replace H : (spec_l6DrawRight.l0 k1 t389 x6_1 t349 (wrap64 (x8_1 + 1)) s0_0 t386 t387 x343000_1) = some (r1,r2,r3,r4) := H
        have A53 := Aside0.mk A530
        clear A530
        have H' := Aside0.mk H
        clear H
        try go_wp2_with (first | ((with_reducible refine gate_dst (N := 21) rfl ?_);refine Kd.R_lit (Kd.int .i64) _ 3 ?hg (N := 21) ?hd (xs := ([0,1,2,5,23] : List Int)) (inner := [.int .i64 0,.int .i64 1,.int .i64 2,.int .i64 5,.int .i64 23]) (ok := fun _ => True) (okp := fun _ => True) ?hr ?hp (fun _ hk => hk) trivial (Below.refl _ _) (Nat.le_refl _) (by simp) ?_;(case hd => rfl);(case hg => rfl);(case hr => first | (go_simp;done) | (go_simp;rfl));(case hp => exact (Reps.one (show Kd.M (Kd.int .i64) _ _ _ 0 [.int .i64 0] from rfl) (Reps.one (show Kd.M (Kd.int .i64) _ _ _ 1 [.int .i64 1] from rfl) (Reps.one (show Kd.M (Kd.int .i64) _ _ _ 2 [.int .i64 2] from rfl) (Reps.one (show Kd.M (Kd.int .i64) _ _ _ 5 [.int .i64 5] from rfl) (Reps.one (show Kd.M (Kd.int .i64) _ _ _ 23 [.int .i64 23] from rfl) (Reps.none _ _)))))));intro v356 w54 ho55 hb hg_ hnew_;clear hg_ hnew_;(first | rw [← Ny355.out] at ho55 | (simp only [Int.reduceToNat] at ho55;rw [← Ny355.out] at ho55));have n0_ := Aside0.mk (Kd.R_elder' (by (with_reducible repeat (first | apply Kd.R_alloc | apply Kd.R_drewN | apply Kd.R_drew));exact HO_5.out) (Kd.R_base ho55) hb);have n1_ := Aside0.mk (Kd.R_elder' (by (with_reducible repeat (first | apply Kd.R_alloc | apply Kd.R_drewN | apply Kd.R_drew));exact HO_6.out) (Kd.R_base ho55) hb);have n2_ := Aside0.mk (Kd.S_elder' (by (with_reducible repeat (first | apply Kd.S_alloc | apply Kd.S_drewN | apply Kd.S_drew));exact HO_343000.out) (Kd.R_base ho55) hb);have n3_ := Aside0.mk (Kd.R_lower (Kd.R_new' (Kd.R_new' (Kd.R_newM (M := fun k_ => (w.heap.size ≤ k_)) ho55 (keep_size (w := w) (g := g) (row := none) (gK_ HK.out)) (fun k_ h_ => h_)) (Kd.R_lt (by (with_reducible repeat (first | apply Kd.R_alloc | apply Kd.R_drewN | apply Kd.R_drew));exact HO_5.out))) (Kd.R_lt (by (with_reducible repeat (first | apply Kd.R_alloc | apply Kd.R_drewN | apply Kd.R_drew));exact HO_6.out))) (keep_size (w := w) (g := g) (row := none) (gK_ HK.out)));have n4_ := Aside0.mk (nB_ BK338.out hb);have n5_ := Aside0.mk (nB_ BK342.out hb);have n6_ := Aside0.mk (IsS119.below (gI119_ HI0.out) hb);have n7_ := Aside0.mk (KeepBut.trans (gK_ HK.out) (KeepBut.of_below hb g none) (.inl rfl));have n8_ := Aside0.mk (below_step (gB119_ HB.out) hb);clear HO_5;clear HO_6;clear HO_343000;clear BK338;clear BK342;clear HI0;clear HK;clear HB;have HO_5 := n0_;have HO_6 := n1_;have HO_343000 := n2_;have HO357 := n3_;have BK338 := n4_;have BK342 := n5_;have HI0 := n6_;have HK := n7_;have HB := n8_;clear n0_ n1_ n2_ n3_ n4_ n5_ n6_ n7_ n8_;clear hb ho55;obtain ⟨Ao56,co56,eo56⟩ := Kd.R_slice HO357.out;subst eo56) | ((with_reducible refine gate_callee (f := 66) rfl ?_);refine gL_ (some 22) Try.func66 #[.pointer (some ⟨g,0,none⟩),.slice Ao56 y355.length co56] ?_;(with_reducible refine (spec_l1PickInt.calls g s0_0 x1001_1 x1002_1 _ _ y355 t358 t359 t360 w0 _ ?side1 ?side2 ?side3 ?side4 ?side5 A18.out).mono ?_);(case side1 => exact gI119_ HI0.out);(case side2 => exact gB119_ HB.out);(case side3 => exact cS_ (Kd.R_reads' HO357.out).2.2);(case side4 => exact (Kd.R_reads' HO357.out).2.1);(case side5 => exact far_slice (IsS119.own_ne HI0.out HO357.out (by decide)));rintro e w57 ⟨rfl,hi,hb,hk⟩;refine ⟨_,rfl,?_⟩;have n0_ := Aside0.mk (Kd.R_mono (Kd.R_keep (IsS119.apart (show IsS119 w0 _ g s0_0 x1001_1 x1002_1 from gI119_ HI0.out) (by (with_reducible repeat (first | apply Kd.R_alloc | apply Kd.R_drewN | apply Kd.R_drew));exact HO_5.out) (by decide)) hk (fun _ h => h.2)) (fun _ h => h.1));have n1_ := Aside0.mk (Kd.R_mono (Kd.R_keep (IsS119.apart (show IsS119 w0 _ g s0_0 x1001_1 x1002_1 from gI119_ HI0.out) (by (with_reducible repeat (first | apply Kd.R_alloc | apply Kd.R_drewN | apply Kd.R_drew));exact HO_6.out) (by decide)) hk (fun _ h => h.2)) (fun _ h => h.1));have n2_ := Aside0.mk (Kd.S_mono (Kd.S_keep (Kd.S_mono (ok := fun k_ => ((((w.heap.size ≤ k_)) ∧ (some k_ ≠ (u5 : Value).ownBlock ∧ (some k_ ≠ (u6 : Value).ownBlock ∧ (k_ ≠ gb338 ∧ (k_ ≠ gb342 ∧ k_ ≠ g))))) ∧ some k_ ≠ (.slice Ao56 y355.length co56 : Value).ownBlock)) (by (with_reducible repeat (first | apply Kd.S_alloc | apply Kd.S_drewN | apply Kd.S_drew));exact HO_343000.out) (fun k_ hk_ => (⟨hk_,hk_.1.2.2.2.2.2⟩ : _ ∧ k_ ≠ g))) hk (fun _ h => h.2)) (fun _ h => h.1));have n3_ := Aside0.mk (KeepBut.blk hk (g' := gb338) (o := .cells #[.slice none 0 0] 24 (0,0)) (by (with_reducible repeat (first | refine blk_drewN ?_ _ | refine blk_drew ?_ | refine blk_alloc ?_ _));exact BK338.out) NB338_0.out (by simp));have n4_ := Aside0.mk (KeepBut.blk hk (g' := gb342) (o := .cells #[u343000] 24 (0,0)) (by (with_reducible repeat (first | refine blk_drewN ?_ _ | refine blk_drew ?_ | refine blk_alloc ?_ _));exact BK342.out) NB342_0.out (by simp));have n5_ := Aside0.mk (Kd.R_mono (Kd.R_keep (IsS119.apart (show IsS119 w0 _ g s0_0 x1001_1 x1002_1 from gI119_ HI0.out) (by (with_reducible repeat (first | apply Kd.R_alloc | apply Kd.R_drewN | apply Kd.R_drew));exact HO357.out) (by decide)) hk (fun _ h => h.2)) (fun _ h => h.1));have n6_ := Aside0.mk (KeepBut.trans (gK_ HK.out) hk (.inl rfl));have n7_ := Aside0.mk (hb);have n8_ := Aside0.mk (hi);clear HO_5;clear HO_6;clear HO_343000;clear BK338;clear BK342;clear HO357;clear HK;clear HB;clear HI0;have HO_5 := n0_;have HO_6 := n1_;have HO_343000 := n2_;have BK338 := n3_;have BK342 := n4_;have HO357 := n5_;have HK := n6_;have HB := n7_;have HI0 := n8_;clear n0_ n1_ n2_ n3_ n4_ n5_ n6_ n7_ n8_;(try clear hb);(try clear hb2);(try clear hk);(try clear hi)) | ((with_reducible refine gate_callee (f := 84) rfl ?_);refine gL_ (some 24) Try.func84 #[.pointer (some ⟨g,0,none⟩),.int .i64 5] ?_;(with_reducible refine (spec_l1Below.calls g s0_0 t359 t360 5 t361 t362 t363 w0 _ ?side1 ?side2 A19.out).mono ?_);(case side1 => exact gI119_ HI0.out);(case side2 => exact gB119_ HB.out);rintro e w58 ⟨rfl,hi,hb,hk⟩;refine ⟨_,rfl,?_⟩;have n0_ := Aside0.mk (Kd.R_mono (Kd.R_keep (IsS119.apart (show IsS119 w0 _ g s0_0 t359 t360 from gI119_ HI0.out) (by (with_reducible repeat (first | apply Kd.R_alloc | apply Kd.R_drewN | apply Kd.R_drew));exact HO_5.out) (by decide)) hk (fun _ h => h.2)) (fun _ h => h.1));have n1_ := Aside0.mk (Kd.R_mono (Kd.R_keep (IsS119.apart (show IsS119 w0 _ g s0_0 t359 t360 from gI119_ HI0.out) (by (with_reducible repeat (first | apply Kd.R_alloc | apply Kd.R_drewN | apply Kd.R_drew));exact HO_6.out) (by decide)) hk (fun _ h => h.2)) (fun _ h => h.1));have n2_ := Aside0.mk (Kd.S_mono (Kd.S_keep (Kd.S_mono (ok := fun k_ => ((((w.heap.size ≤ k_)) ∧ (some k_ ≠ (u5 : Value).ownBlock ∧ (some k_ ≠ (u6 : Value).ownBlock ∧ (k_ ≠ gb338 ∧ (k_ ≠ gb342 ∧ k_ ≠ g))))) ∧ some k_ ≠ (.slice Ao56 y355.length co56 : Value).ownBlock)) (by (with_reducible repeat (first | apply Kd.S_alloc | apply Kd.S_drewN | apply Kd.S_drew));exact HO_343000.out) (fun k_ hk_ => (⟨hk_,hk_.1.2.2.2.2.2⟩ : _ ∧ k_ ≠ g))) hk (fun _ h => h.2)) (fun _ h => h.1));have n3_ := Aside0.mk (KeepBut.blk hk (g' := gb338) (o := .cells #[.slice none 0 0] 24 (0,0)) (by (with_reducible repeat (first | refine blk_drewN ?_ _ | refine blk_drew ?_ | refine blk_alloc ?_ _));exact BK338.out) NB338_0.out (by simp));have n4_ := Aside0.mk (KeepBut.blk hk (g' := gb342) (o := .cells #[u343000] 24 (0,0)) (by (with_reducible repeat (first | refine blk_drewN ?_ _ | refine blk_drew ?_ | refine blk_alloc ?_ _));exact BK342.out) NB342_0.out (by simp));have n5_ := Aside0.mk (Kd.R_mono (Kd.R_keep (IsS119.apart (show IsS119 w0 _ g s0_0 t359 t360 from gI119_ HI0.out) (by (with_reducible repeat (first | apply Kd.R_alloc | apply Kd.R_drewN | apply Kd.R_drew));exact HO357.out) (by decide)) hk (fun _ h => h.2)) (fun _ h => h.1));have n6_ := Aside0.mk (KeepBut.trans (gK_ HK.out) hk (.inl rfl));have n7_ := Aside0.mk (hb);have n8_ := Aside0.mk (hi);clear HO_5;clear HO_6;clear HO_343000;clear BK338;clear BK342;clear HO357;clear HK;clear HB;clear HI0;have HO_5 := n0_;have HO_6 := n1_;have HO_343000 := n2_;have BK338 := n3_;have BK342 := n4_;have HO357 := n5_;have HK := n6_;have HB := n7_;have HI0 := n8_;clear n0_ n1_ n2_ n3_ n4_ n5_ n6_ n7_ n8_;(try clear hb);(try clear hb2);(try clear hk);(try clear hi)))
        have n0_ := Aside0.mk (Kd.R_drew HO_5.out)
        have n1_ := Aside0.mk (Kd.R_drew HO_6.out)
        have n2_ := Aside0.mk (Kd.S_drew HO_343000.out)
        have n3_ := Aside0.mk (Kd.R_drew HO357.out)
        have n4_ := Aside0.mk (blk_drew BK338.out)
        have n5_ := Aside0.mk (blk_drew BK342.out)
        have n6_ := Aside0.mk (IsS119.drew HI0.out)
        have n7_ := Aside0.mk (keep_drew HK.out)
        have n8_ := Aside0.mk (below_drew1 HB.out)
        clear HO_5
        clear HO_6
        clear HO_343000
        clear HO357
        clear BK338
        clear BK342
        clear HI0
        clear HK
        clear HB
        have HO_5 := n0_
        have HO_6 := n1_
        have HO_343000 := n2_
        have HO357 := n3_
        have BK338 := n4_
        have BK342 := n5_
        have HI0 := n6_
        have HK := n7_
        have HB := n8_
        clear n0_ n1_ n2_ n3_ n4_ n5_ n6_ n7_ n8_
        refine start_ (n := 12) (S := fun w' => w'.cell? ⟨gb342,0,none⟩ = some (u343000)) (ds := []) (mk_ 12 0) (by kernel_rfl) rfl rfl ((blk_cell BK342.out 0).trans rfl) (fun hHeld => ?_);refine with_tabW spec_l6DrawRight.tab16 spec_l6DrawRight.bits16 (fun HT_ HW_ => ?_)
        generalize w58.drew = w59 at HO_5 HO_6 HO_343000 HO357 BK338 BK342 HI0 HK HB hHeld ⊢
        refine pU_ 1 (some 62) (mk_ 12 2) ?_
        refine pU_ 2 (some 63) (mk_ 12 6) ?_
        refine pU_ 3 (some 64) (mk_ 12 14) ?_
        refine pU_ 5 (some 66) (mk_ 12 46) ?_
        refine take_ (i := 0) (N := some 61) (v := ?_) (a' := ?_) #[true,true,true,true,false,true,false,false,false,false,false,false] rfl rfl (take_ofW HT_.out HW_.out (by kernel_rfl)) (fun _ _ _ h => h) (Or.inl ⟨by rfl,?_⟩) hHeld ?_ ?_
        rotate_left
        ·intro w' s0
         go_simp
         with_reducible rfl
        rotate_left
        ·simp only [Act.put,List.setIfInBounds_toArray,List.set_cons_zero,List.set_cons_succ,i64_w,i32_w]
         rfl
        refine oN_ 4 (some 65) (mk_ 12 63) (fun K hK => ?_)
        refine gO_ Try.func84 #[.pointer (some ⟨g,0,none⟩),.int .i64 3] ?_
        with_reducible refine (spec_l1Below.calls g s0_0 t362 t363 3 t382 t383 t384 w0 _ ?side1 ?side2 A51.out).mono ?_
        (case side1 => exact gI119_ HI0.out)
        (case side2 => exact gB119_ HB.out)
        rintro e w60 ⟨rfl,hi,hb,hk⟩
        refine ⟨_,rfl,?_⟩
        have n0_ := Aside0.mk (Kd.R_mono (Kd.R_keep (IsS119.apart (show IsS119 w0 _ g s0_0 t362 t363 from gI119_ HI0.out) (by (with_reducible repeat (first | apply Kd.R_alloc | apply Kd.R_drewN | apply Kd.R_drew));exact HO_5.out) (by decide)) hk (fun _ h => h.2)) (fun _ h => h.1))
        have n1_ := Aside0.mk (Kd.R_mono (Kd.R_keep (IsS119.apart (show IsS119 w0 _ g s0_0 t362 t363 from gI119_ HI0.out) (by (with_reducible repeat (first | apply Kd.R_alloc | apply Kd.R_drewN | apply Kd.R_drew));exact HO_6.out) (by decide)) hk (fun _ h => h.2)) (fun _ h => h.1))
        have n2_ := Aside0.mk (Kd.S_mono (Kd.S_keep (Kd.S_mono (ok := fun k_ => ((((w.heap.size ≤ k_)) ∧ (some k_ ≠ (u5 : Value).ownBlock ∧ (some k_ ≠ (u6 : Value).ownBlock ∧ (k_ ≠ gb338 ∧ (k_ ≠ gb342 ∧ k_ ≠ g))))) ∧ some k_ ≠ (.slice Ao56 y355.length co56 : Value).ownBlock)) (by (with_reducible repeat (first | apply Kd.S_alloc | apply Kd.S_drewN | apply Kd.S_drew));exact HO_343000.out) (fun k_ hk_ => (⟨hk_,hk_.1.2.2.2.2.2⟩ : _ ∧ k_ ≠ g))) hk (fun _ h => h.2)) (fun _ h => h.1))
        have n3_ := Aside0.mk (KeepBut.blk hk (g' := gb338) (o := .cells #[.slice none 0 0] 24 (0,0)) (by (with_reducible repeat (first | refine blk_drewN ?_ _ | refine blk_drew ?_ | refine blk_alloc ?_ _));exact BK338.out) NB338_0.out (by simp))
        have n4_ := Aside0.mk (KeepBut.blk hk (g' := gb342) (o := .cells #[u343000] 24 (0,0)) (by (with_reducible repeat (first | refine blk_drewN ?_ _ | refine blk_drew ?_ | refine blk_alloc ?_ _));exact BK342.out) NB342_0.out (by simp))
        have n5_ := Aside0.mk (Kd.R_mono (Kd.R_keep (IsS119.apart (show IsS119 w0 _ g s0_0 t362 t363 from gI119_ HI0.out) (by (with_reducible repeat (first | apply Kd.R_alloc | apply Kd.R_drewN | apply Kd.R_drew));exact HO357.out) (by decide)) hk (fun _ h => h.2)) (fun _ h => h.1))
        have n6_ := Aside0.mk (KeepBut.trans (gK_ HK.out) hk (.inl rfl))
        have n7_ := Aside0.mk (hb)
        have n8_ := Aside0.mk (hi)
        clear HO_5
        clear HO_6
        clear HO_343000
        clear BK338
        clear BK342
        clear HO357
        clear HK
        clear HB
        clear HI0
        have HO_5 := n0_
        have HO_6 := n1_
        have HO_343000 := n2_
        have BK338 := n3_
        have BK342 := n4_
        have HO357 := n5_
        have HK := n6_
        have HB := n7_
        have HI0 := n8_
        clear n0_ n1_ n2_ n3_ n4_ n5_ n6_ n7_ n8_
        (try clear hb)
        (try clear hb2)
        (try clear hk)
        (try clear hi)
        refine hK.out _ _ ((blk_cell BK342.out 0).trans rfl) (fun hHeld => ?_)
        clear hK K
        refine norm_ (a' := ?_) ?_ ?_
        rotate_left
        ·show Act.put _ (some 65) _ = _
         simp only [Act.put,List.setIfInBounds_toArray,List.set_cons_zero,List.set_cons_succ,i64_w,i32_w]
         rfl
        refine oN_ 6 (some 67) (mk_ 12 127) (fun K hK => ?_)
        refine gO_ Try.func67 #[.pointer (some ⟨g,0,none⟩),.int .i64 2] ?_
        with_reducible refine (spec_l1Once.calls g s0_0 t383 t384 2 t385 t386 t387 w0 _ ?side1 ?side2 A52.out).mono ?_
        (case side1 => exact gI119_ HI0.out)
        (case side2 => exact gB119_ HB.out)
        rintro e w61 ⟨rfl,hi,hb,hk⟩
        refine ⟨_,rfl,?_⟩
        have n0_ := Aside0.mk (Kd.R_mono (Kd.R_keep (IsS119.apart (show IsS119 w0 _ g s0_0 t383 t384 from gI119_ HI0.out) (by (with_reducible repeat (first | apply Kd.R_alloc | apply Kd.R_drewN | apply Kd.R_drew));exact HO_5.out) (by decide)) hk (fun _ h => h.2)) (fun _ h => h.1))
        have n1_ := Aside0.mk (Kd.R_mono (Kd.R_keep (IsS119.apart (show IsS119 w0 _ g s0_0 t383 t384 from gI119_ HI0.out) (by (with_reducible repeat (first | apply Kd.R_alloc | apply Kd.R_drewN | apply Kd.R_drew));exact HO_6.out) (by decide)) hk (fun _ h => h.2)) (fun _ h => h.1))
        have n2_ := Aside0.mk (Kd.S_mono (Kd.S_keep (Kd.S_mono (ok := fun k_ => ((((w.heap.size ≤ k_)) ∧ (some k_ ≠ (u5 : Value).ownBlock ∧ (some k_ ≠ (u6 : Value).ownBlock ∧ (k_ ≠ gb338 ∧ (k_ ≠ gb342 ∧ k_ ≠ g))))) ∧ some k_ ≠ (.slice Ao56 y355.length co56 : Value).ownBlock)) (by (with_reducible repeat (first | apply Kd.S_alloc | apply Kd.S_drewN | apply Kd.S_drew));exact HO_343000.out) (fun k_ hk_ => (⟨hk_,hk_.1.2.2.2.2.2⟩ : _ ∧ k_ ≠ g))) hk (fun _ h => h.2)) (fun _ h => h.1))
        have n3_ := Aside0.mk (KeepBut.blk hk (g' := gb338) (o := .cells #[.slice none 0 0] 24 (0,0)) (by (with_reducible repeat (first | refine blk_drewN ?_ _ | refine blk_drew ?_ | refine blk_alloc ?_ _));exact BK338.out) NB338_0.out (by simp))
        have n4_ := Aside0.mk (KeepBut.blk hk (g' := gb342) (o := .cells #[u343000] 24 (0,0)) (by (with_reducible repeat (first | refine blk_drewN ?_ _ | refine blk_drew ?_ | refine blk_alloc ?_ _));exact BK342.out) NB342_0.out (by simp))
        have n5_ := Aside0.mk (Kd.R_mono (Kd.R_keep (IsS119.apart (show IsS119 w0 _ g s0_0 t383 t384 from gI119_ HI0.out) (by (with_reducible repeat (first | apply Kd.R_alloc | apply Kd.R_drewN | apply Kd.R_drew));exact HO357.out) (by decide)) hk (fun _ h => h.2)) (fun _ h => h.1))
        have n6_ := Aside0.mk (KeepBut.trans (gK_ HK.out) hk (.inl rfl))
        have n7_ := Aside0.mk (hb)
        have n8_ := Aside0.mk (hi)
        clear HO_5
        clear HO_6
        clear HO_343000
        clear BK338
        clear BK342
        clear HO357
        clear HK
        clear HB
        clear HI0
        have HO_5 := n0_
        have HO_6 := n1_
        have HO_343000 := n2_
        have BK338 := n3_
        have BK342 := n4_
        have HO357 := n5_
        have HK := n6_
        have HB := n7_
        have HI0 := n8_
        clear n0_ n1_ n2_ n3_ n4_ n5_ n6_ n7_ n8_
        (try clear hb)
        (try clear hb2)
        (try clear hk)
        (try clear hi)
        obtain ⟨Ao62,co62,eo62⟩ := Kd.S_slice HO_343000.out
        (first | subst eo62 | (injection eo62 with f1_ f2_ f3_;have f4_ := f1_.symm;have f5_ := f3_.symm;clear f1_ f2_ f3_;subst f4_;subst f5_))
        obtain ⟨Ao63,co63,eo63⟩ := Kd.R_slice HO_5.out
        (first | subst eo63 | (injection eo63 with f1_ f2_ f3_;have f4_ := f1_.symm;have f5_ := f3_.symm;clear f1_ f2_ f3_;subst f4_;subst f5_))
        refine hK.out _ _ ((blk_cell BK342.out 0).trans rfl) (fun hHeld => ?_)
        clear hK K
        refine norm_ (a' := ?_) ?_ ?_
        rotate_left
        ·show Act.put _ (some 67) _ = _
         simp only [Act.put,List.setIfInBounds_toArray,List.set_cons_zero,List.set_cons_succ,i64_w,i32_w]
         rfl
        refine oN_ 7 (some 68) (mk_ 12 255) (fun K hK => ?_)
        refine gO_ Try.func22 #[.agg #[.slice Ao62 x343000_1.length co62],.slice Ao63 x5_1.length co63,.int .i64 t358,.int .i64 t382,.bool t385] ?_
        with_reducible refine (spec_Load.calls k1 _ _ x343000_1 _ _ x5_1 t358 t382 t385 t388 t389 _ ?side1 ?side2 ?side3 ?side4 A53.out).mono ?_
        (case side1 => exact cS_ (Kd.S_reads' HO_343000.out).2.2)
        (case side2 => exact (Kd.S_reads' HO_343000.out).2.1)
        (case side3 => exact cS_ (Kd.R_reads' HO_5.out).2.2)
        (case side4 => exact (Kd.R_reads' HO_5.out).2.1)
        rintro e w64 ⟨v390,rfl,ho0,hb⟩
        refine ⟨_,rfl,?_⟩
        have n0_ := Aside0.mk (Kd.R_elder' (by (with_reducible repeat (first | apply Kd.R_alloc | apply Kd.R_drewN | apply Kd.R_drew));exact HO_5.out) (Kd.R_base ho0) hb)
        have n1_ := Aside0.mk (Kd.R_elder' (by (with_reducible repeat (first | apply Kd.R_alloc | apply Kd.R_drewN | apply Kd.R_drew));exact HO_6.out) (Kd.R_base ho0) hb)
        have n2_ := Aside0.mk (Kd.S_elder' (by (with_reducible repeat (first | apply Kd.S_alloc | apply Kd.S_drewN | apply Kd.S_drew));exact HO_343000.out) (Kd.R_base ho0) hb)
        have n3_ := Aside0.mk (Kd.R_elder' (by (with_reducible repeat (first | apply Kd.R_alloc | apply Kd.R_drewN | apply Kd.R_drew));exact HO357.out) (Kd.R_base ho0) hb)
        have n4_ := Aside0.mk (Kd.R_lower (Kd.R_new' (Kd.R_new' (Kd.R_new' (Kd.R_newM (M := fun k_ => (w.heap.size ≤ k_)) ho0 (keep_size (w := w) (g := g) (row := none) (gK_ HK.out)) (fun k_ h_ => h_)) (Kd.R_lt (by (with_reducible repeat (first | apply Kd.R_alloc | apply Kd.R_drewN | apply Kd.R_drew));exact HO_5.out))) (Kd.R_lt (by (with_reducible repeat (first | apply Kd.R_alloc | apply Kd.R_drewN | apply Kd.R_drew));exact HO_6.out))) (Kd.R_lt (by (with_reducible repeat (first | apply Kd.R_alloc | apply Kd.R_drewN | apply Kd.R_drew));exact HO357.out))) (keep_size (w := w) (g := g) (row := none) (gK_ HK.out)))
        have n5_ := Aside0.mk (nB_ BK338.out hb)
        have n6_ := Aside0.mk (nB_ BK342.out hb)
        have n7_ := Aside0.mk (IsS119.below (gI119_ HI0.out) hb)
        have n8_ := Aside0.mk (KeepBut.trans (gK_ HK.out) (KeepBut.of_below hb g none) (.inl rfl))
        have n9_ := Aside0.mk (below_step (gB119_ HB.out) hb)
        clear HO_5
        clear HO_6
        clear HO_343000
        clear HO357
        clear BK338
        clear BK342
        clear HI0
        clear HK
        clear HB
        have HO_5 := n0_
        have HO_6 := n1_
        have HO_343000 := n2_
        have HO357 := n3_
        have HO391 := n4_
        have BK338 := n5_
        have BK342 := n6_
        have HI0 := n7_
        have HK := n8_
        have HB := n9_
        clear n0_ n1_ n2_ n3_ n4_ n5_ n6_ n7_ n8_ n9_
        (try clear hb)
        (try clear hb2)
        (try clear hk)
        (try clear hi)
        (try clear ho0)
        refine hK.out _ _ ((blk_cell BK342.out 0).trans rfl) (fun hHeld => ?_)
        clear hK K
        refine norm_ (a' := ?_) ?_ ?_
        rotate_left
        ·show Act.put _ (some 68) _ = _
         simp only [Act.put,List.setIfInBounds_toArray,List.set_cons_zero,List.set_cons_succ,i64_w,i32_w]
         rfl
        refine pU_ 8 (some 60) (mk_ 12 511) ?_
        refine pU_ 9 (some 69) (mk_ 12 1023) ?_
        refine pU_ 10 (some 70) (mk_ 12 2047) ?_
        refine pU_ 11 (some 5) (mk_ 12 4095) ?_
        refine done_ (done_of HT_.out (by kernel_rfl)) ?_
        try go_wp2
        go_roundg k1
        case measure => have := HK1.out;omega
        case rel => exact ⟨(t389),(x6_1),(wrap64 (x8_1 + 1)),(t386),(t387),(x343000_1),(.slice Ao62 x343000_1.length co62),(by first | rfl | (simp;done) | (simp [*];done)),H',⟨by have := HK1.out;omega⟩,⟨by (with_reducible repeat (first | apply Kd.R_alloc | apply Kd.R_drewN | apply Kd.R_drew));exact Kd.R_mono HO391.out (fun _ hk => ⟨hk.1.1.1.1,hk.1.2⟩)⟩,⟨by (with_reducible repeat (first | apply Kd.R_alloc | apply Kd.R_drewN | apply Kd.R_drew));exact Kd.R_mono HO_6.out (fun _ hk => ⟨hk.1.1.1,hk.2⟩)⟩,⟨by (with_reducible repeat (first | apply Kd.S_alloc | apply Kd.S_drewN | apply Kd.S_drew));exact Kd.S_mono HO_343000.out (fun _ hk => ⟨hk.1.1.1,⟨hk.2,⟨hk.1.1.2.2.1,⟨hk.1.1.2.2.2.1,⟨hk.1.1.2.2.2.2.1,hk.1.1.2.2.2.2.2⟩⟩⟩⟩⟩)⟩,⟨rW_ BK338.out⟩,⟨rW_ BK342.out⟩,⟨gI119_ HI0.out⟩,⟨gK_ HK.out⟩,⟨gB119_ HB.out⟩⟩
       ·rw [if_neg c50] at H
        have c50b0 : (t361 == 2) = false := beq_eq_false_iff_ne.mpr c50
        have c50b1 : (t361 != 2) = true := bne_iff_ne.mpr c50
        by_cases c65 : t361 = 3
        ·rw [if_pos c65] at H
         have c65b0 : (t361 == 3) = true := beq_iff_eq.mpr c65
         have c65b1 : (t361 != 3) = false := bne_eq_false_iff_eq.mpr c65
         clear c65
         replace H := Option.bind_eq_some_iff.mp H
         obtain ⟨⟨t392,t393,t394⟩,A660,H⟩ := H
         replace H : ((spec_l1Once.f s0_0 t393 t394 2).bind fun bt395 => ((spec_Load.f k1 x343000_1 x6_1 t358 t392 bt395.1).bind fun bt398 => (spec_l6DrawRight.l0 k1 x5_1 bt398.2 t349 (wrap64 (x8_1 + 1)) s0_0 bt395.2.1 bt395.2.2 x343000_1))) = some (r1,r2,r3,r4) := H
         have A66 := Aside0.mk A660
         clear A660
         replace H := Option.bind_eq_some_iff.mp H
         obtain ⟨⟨t395,t396,t397⟩,A670,H⟩ := H
         replace H : ((spec_Load.f k1 x343000_1 x6_1 t358 t392 t395).bind fun bt398 => (spec_l6DrawRight.l0 k1 x5_1 bt398.2 t349 (wrap64 (x8_1 + 1)) s0_0 t396 t397 x343000_1)) = some (r1,r2,r3,r4) := H
         have A67 := Aside0.mk A670
         clear A670
         replace H := Option.bind_eq_some_iff.mp H
         obtain ⟨⟨t398,t399⟩,A680,H⟩ := H
         replace H : (spec_l6DrawRight.l0 k1 x5_1 t399 t349 (wrap64 (x8_1 + 1)) s0_0 t396 t397 x343000_1) = some (r1,r2,r3,r4) := H
         have A68 := Aside0.mk A680
         clear A680
         have H' := Aside0.mk H
         clear H
         try go_wp2_with (first | ((with_reducible refine gate_dst (N := 21) rfl ?_);refine Kd.R_lit (Kd.int .i64) _ 3 ?hg (N := 21) ?hd (xs := ([0,1,2,5,23] : List Int)) (inner := [.int .i64 0,.int .i64 1,.int .i64 2,.int .i64 5,.int .i64 23]) (ok := fun _ => True) (okp := fun _ => True) ?hr ?hp (fun _ hk => hk) trivial (Below.refl _ _) (Nat.le_refl _) (by simp) ?_;(case hd => rfl);(case hg => rfl);(case hr => first | (go_simp;done) | (go_simp;rfl));(case hp => exact (Reps.one (show Kd.M (Kd.int .i64) _ _ _ 0 [.int .i64 0] from rfl) (Reps.one (show Kd.M (Kd.int .i64) _ _ _ 1 [.int .i64 1] from rfl) (Reps.one (show Kd.M (Kd.int .i64) _ _ _ 2 [.int .i64 2] from rfl) (Reps.one (show Kd.M (Kd.int .i64) _ _ _ 5 [.int .i64 5] from rfl) (Reps.one (show Kd.M (Kd.int .i64) _ _ _ 23 [.int .i64 23] from rfl) (Reps.none _ _)))))));intro v356 w69 ho70 hb hg_ hnew_;clear hg_ hnew_;(first | rw [← Ny355.out] at ho70 | (simp only [Int.reduceToNat] at ho70;rw [← Ny355.out] at ho70));have n0_ := Aside0.mk (Kd.R_elder' (by (with_reducible repeat (first | apply Kd.R_alloc | apply Kd.R_drewN | apply Kd.R_drew));exact HO_5.out) (Kd.R_base ho70) hb);have n1_ := Aside0.mk (Kd.R_elder' (by (with_reducible repeat (first | apply Kd.R_alloc | apply Kd.R_drewN | apply Kd.R_drew));exact HO_6.out) (Kd.R_base ho70) hb);have n2_ := Aside0.mk (Kd.S_elder' (by (with_reducible repeat (first | apply Kd.S_alloc | apply Kd.S_drewN | apply Kd.S_drew));exact HO_343000.out) (Kd.R_base ho70) hb);have n3_ := Aside0.mk (Kd.R_lower (Kd.R_new' (Kd.R_new' (Kd.R_newM (M := fun k_ => (w.heap.size ≤ k_)) ho70 (keep_size (w := w) (g := g) (row := none) (gK_ HK.out)) (fun k_ h_ => h_)) (Kd.R_lt (by (with_reducible repeat (first | apply Kd.R_alloc | apply Kd.R_drewN | apply Kd.R_drew));exact HO_5.out))) (Kd.R_lt (by (with_reducible repeat (first | apply Kd.R_alloc | apply Kd.R_drewN | apply Kd.R_drew));exact HO_6.out))) (keep_size (w := w) (g := g) (row := none) (gK_ HK.out)));have n4_ := Aside0.mk (nB_ BK338.out hb);have n5_ := Aside0.mk (nB_ BK342.out hb);have n6_ := Aside0.mk (IsS119.below (gI119_ HI0.out) hb);have n7_ := Aside0.mk (KeepBut.trans (gK_ HK.out) (KeepBut.of_below hb g none) (.inl rfl));have n8_ := Aside0.mk (below_step (gB119_ HB.out) hb);clear HO_5;clear HO_6;clear HO_343000;clear BK338;clear BK342;clear HI0;clear HK;clear HB;have HO_5 := n0_;have HO_6 := n1_;have HO_343000 := n2_;have HO357 := n3_;have BK338 := n4_;have BK342 := n5_;have HI0 := n6_;have HK := n7_;have HB := n8_;clear n0_ n1_ n2_ n3_ n4_ n5_ n6_ n7_ n8_;clear hb ho70;obtain ⟨Ao71,co71,eo71⟩ := Kd.R_slice HO357.out;subst eo71) | ((with_reducible refine gate_callee (f := 66) rfl ?_);refine gL_ (some 22) Try.func66 #[.pointer (some ⟨g,0,none⟩),.slice Ao71 y355.length co71] ?_;(with_reducible refine (spec_l1PickInt.calls g s0_0 x1001_1 x1002_1 _ _ y355 t358 t359 t360 w0 _ ?side1 ?side2 ?side3 ?side4 ?side5 A18.out).mono ?_);(case side1 => exact gI119_ HI0.out);(case side2 => exact gB119_ HB.out);(case side3 => exact cS_ (Kd.R_reads' HO357.out).2.2);(case side4 => exact (Kd.R_reads' HO357.out).2.1);(case side5 => exact far_slice (IsS119.own_ne HI0.out HO357.out (by decide)));rintro e w72 ⟨rfl,hi,hb,hk⟩;refine ⟨_,rfl,?_⟩;have n0_ := Aside0.mk (Kd.R_mono (Kd.R_keep (IsS119.apart (show IsS119 w0 _ g s0_0 x1001_1 x1002_1 from gI119_ HI0.out) (by (with_reducible repeat (first | apply Kd.R_alloc | apply Kd.R_drewN | apply Kd.R_drew));exact HO_5.out) (by decide)) hk (fun _ h => h.2)) (fun _ h => h.1));have n1_ := Aside0.mk (Kd.R_mono (Kd.R_keep (IsS119.apart (show IsS119 w0 _ g s0_0 x1001_1 x1002_1 from gI119_ HI0.out) (by (with_reducible repeat (first | apply Kd.R_alloc | apply Kd.R_drewN | apply Kd.R_drew));exact HO_6.out) (by decide)) hk (fun _ h => h.2)) (fun _ h => h.1));have n2_ := Aside0.mk (Kd.S_mono (Kd.S_keep (Kd.S_mono (ok := fun k_ => ((((w.heap.size ≤ k_)) ∧ (some k_ ≠ (u5 : Value).ownBlock ∧ (some k_ ≠ (u6 : Value).ownBlock ∧ (k_ ≠ gb338 ∧ (k_ ≠ gb342 ∧ k_ ≠ g))))) ∧ some k_ ≠ (.slice Ao71 y355.length co71 : Value).ownBlock)) (by (with_reducible repeat (first | apply Kd.S_alloc | apply Kd.S_drewN | apply Kd.S_drew));exact HO_343000.out) (fun k_ hk_ => (⟨hk_,hk_.1.2.2.2.2.2⟩ : _ ∧ k_ ≠ g))) hk (fun _ h => h.2)) (fun _ h => h.1));have n3_ := Aside0.mk (KeepBut.blk hk (g' := gb338) (o := .cells #[.slice none 0 0] 24 (0,0)) (by (with_reducible repeat (first | refine blk_drewN ?_ _ | refine blk_drew ?_ | refine blk_alloc ?_ _));exact BK338.out) NB338_0.out (by simp));have n4_ := Aside0.mk (KeepBut.blk hk (g' := gb342) (o := .cells #[u343000] 24 (0,0)) (by (with_reducible repeat (first | refine blk_drewN ?_ _ | refine blk_drew ?_ | refine blk_alloc ?_ _));exact BK342.out) NB342_0.out (by simp));have n5_ := Aside0.mk (Kd.R_mono (Kd.R_keep (IsS119.apart (show IsS119 w0 _ g s0_0 x1001_1 x1002_1 from gI119_ HI0.out) (by (with_reducible repeat (first | apply Kd.R_alloc | apply Kd.R_drewN | apply Kd.R_drew));exact HO357.out) (by decide)) hk (fun _ h => h.2)) (fun _ h => h.1));have n6_ := Aside0.mk (KeepBut.trans (gK_ HK.out) hk (.inl rfl));have n7_ := Aside0.mk (hb);have n8_ := Aside0.mk (hi);clear HO_5;clear HO_6;clear HO_343000;clear BK338;clear BK342;clear HO357;clear HK;clear HB;clear HI0;have HO_5 := n0_;have HO_6 := n1_;have HO_343000 := n2_;have BK338 := n3_;have BK342 := n4_;have HO357 := n5_;have HK := n6_;have HB := n7_;have HI0 := n8_;clear n0_ n1_ n2_ n3_ n4_ n5_ n6_ n7_ n8_;(try clear hb);(try clear hb2);(try clear hk);(try clear hi)) | ((with_reducible refine gate_callee (f := 84) rfl ?_);refine gL_ (some 24) Try.func84 #[.pointer (some ⟨g,0,none⟩),.int .i64 5] ?_;(with_reducible refine (spec_l1Below.calls g s0_0 t359 t360 5 t361 t362 t363 w0 _ ?side1 ?side2 A19.out).mono ?_);(case side1 => exact gI119_ HI0.out);(case side2 => exact gB119_ HB.out);rintro e w73 ⟨rfl,hi,hb,hk⟩;refine ⟨_,rfl,?_⟩;have n0_ := Aside0.mk (Kd.R_mono (Kd.R_keep (IsS119.apart (show IsS119 w0 _ g s0_0 t359 t360 from gI119_ HI0.out) (by (with_reducible repeat (first | apply Kd.R_alloc | apply Kd.R_drewN | apply Kd.R_drew));exact HO_5.out) (by decide)) hk (fun _ h => h.2)) (fun _ h => h.1));have n1_ := Aside0.mk (Kd.R_mono (Kd.R_keep (IsS119.apart (show IsS119 w0 _ g s0_0 t359 t360 from gI119_ HI0.out) (by (with_reducible repeat (first | apply Kd.R_alloc | apply Kd.R_drewN | apply Kd.R_drew));exact HO_6.out) (by decide)) hk (fun _ h => h.2)) (fun _ h => h.1));have n2_ := Aside0.mk (Kd.S_mono (Kd.S_keep (Kd.S_mono (ok := fun k_ => ((((w.heap.size ≤ k_)) ∧ (some k_ ≠ (u5 : Value).ownBlock ∧ (some k_ ≠ (u6 : Value).ownBlock ∧ (k_ ≠ gb338 ∧ (k_ ≠ gb342 ∧ k_ ≠ g))))) ∧ some k_ ≠ (.slice Ao71 y355.length co71 : Value).ownBlock)) (by (with_reducible repeat (first | apply Kd.S_alloc | apply Kd.S_drewN | apply Kd.S_drew));exact HO_343000.out) (fun k_ hk_ => (⟨hk_,hk_.1.2.2.2.2.2⟩ : _ ∧ k_ ≠ g))) hk (fun _ h => h.2)) (fun _ h => h.1));have n3_ := Aside0.mk (KeepBut.blk hk (g' := gb338) (o := .cells #[.slice none 0 0] 24 (0,0)) (by (with_reducible repeat (first | refine blk_drewN ?_ _ | refine blk_drew ?_ | refine blk_alloc ?_ _));exact BK338.out) NB338_0.out (by simp));have n4_ := Aside0.mk (KeepBut.blk hk (g' := gb342) (o := .cells #[u343000] 24 (0,0)) (by (with_reducible repeat (first | refine blk_drewN ?_ _ | refine blk_drew ?_ | refine blk_alloc ?_ _));exact BK342.out) NB342_0.out (by simp));have n5_ := Aside0.mk (Kd.R_mono (Kd.R_keep (IsS119.apart (show IsS119 w0 _ g s0_0 t359 t360 from gI119_ HI0.out) (by (with_reducible repeat (first | apply Kd.R_alloc | apply Kd.R_drewN | apply Kd.R_drew));exact HO357.out) (by decide)) hk (fun _ h => h.2)) (fun _ h => h.1));have n6_ := Aside0.mk (KeepBut.trans (gK_ HK.out) hk (.inl rfl));have n7_ := Aside0.mk (hb);have n8_ := Aside0.mk (hi);clear HO_5;clear HO_6;clear HO_343000;clear BK338;clear BK342;clear HO357;clear HK;clear HB;clear HI0;have HO_5 := n0_;have HO_6 := n1_;have HO_343000 := n2_;have BK338 := n3_;have BK342 := n4_;have HO357 := n5_;have HK := n6_;have HB := n7_;have HI0 := n8_;clear n0_ n1_ n2_ n3_ n4_ n5_ n6_ n7_ n8_;(try clear hb);(try clear hb2);(try clear hk);(try clear hi)))
         have n0_ := Aside0.mk (Kd.R_drew HO_5.out)
         have n1_ := Aside0.mk (Kd.R_drew HO_6.out)
         have n2_ := Aside0.mk (Kd.S_drew HO_343000.out)
         have n3_ := Aside0.mk (Kd.R_drew HO357.out)
         have n4_ := Aside0.mk (blk_drew BK338.out)
         have n5_ := Aside0.mk (blk_drew BK342.out)
         have n6_ := Aside0.mk (IsS119.drew HI0.out)
         have n7_ := Aside0.mk (keep_drew HK.out)
         have n8_ := Aside0.mk (below_drew1 HB.out)
         clear HO_5
         clear HO_6
         clear HO_343000
         clear HO357
         clear BK338
         clear BK342
         clear HI0
         clear HK
         clear HB
         have HO_5 := n0_
         have HO_6 := n1_
         have HO_343000 := n2_
         have HO357 := n3_
         have BK338 := n4_
         have BK342 := n5_
         have HI0 := n6_
         have HK := n7_
         have HB := n8_
         clear n0_ n1_ n2_ n3_ n4_ n5_ n6_ n7_ n8_
         refine start_ (n := 12) (S := fun w' => w'.cell? ⟨gb342,0,none⟩ = some (u343000)) (ds := []) (mk_ 12 0) (by kernel_rfl) rfl rfl ((blk_cell BK342.out 0).trans rfl) (fun hHeld => ?_);refine with_tabW spec_l6DrawRight.tab18 spec_l6DrawRight.bits18 (fun HT_ HW_ => ?_)
         generalize w73.drew = w74 at HO_5 HO_6 HO_343000 HO357 BK338 BK342 HI0 HK HB hHeld ⊢
         refine pU_ 1 (some 75) (mk_ 12 2) ?_
         refine pU_ 2 (some 76) (mk_ 12 6) ?_
         refine pU_ 3 (some 77) (mk_ 12 14) ?_
         refine pU_ 5 (some 79) (mk_ 12 46) ?_
         refine take_ (i := 0) (N := some 74) (v := ?_) (a' := ?_) #[true,true,true,true,false,true,false,false,false,false,false,false] rfl rfl (take_ofW HT_.out HW_.out (by kernel_rfl)) (fun _ _ _ h => h) (Or.inl ⟨by rfl,?_⟩) hHeld ?_ ?_
         rotate_left
         ·intro w' s0
          go_simp
          with_reducible rfl
         rotate_left
         ·simp only [Act.put,List.setIfInBounds_toArray,List.set_cons_zero,List.set_cons_succ,i64_w,i32_w]
          rfl
         refine oN_ 4 (some 78) (mk_ 12 63) (fun K hK => ?_)
         refine gO_ Try.func84 #[.pointer (some ⟨g,0,none⟩),.int .i64 3] ?_
         with_reducible refine (spec_l1Below.calls g s0_0 t362 t363 3 t392 t393 t394 w0 _ ?side1 ?side2 A66.out).mono ?_
         (case side1 => exact gI119_ HI0.out)
         (case side2 => exact gB119_ HB.out)
         rintro e w75 ⟨rfl,hi,hb,hk⟩
         refine ⟨_,rfl,?_⟩
         have n0_ := Aside0.mk (Kd.R_mono (Kd.R_keep (IsS119.apart (show IsS119 w0 _ g s0_0 t362 t363 from gI119_ HI0.out) (by (with_reducible repeat (first | apply Kd.R_alloc | apply Kd.R_drewN | apply Kd.R_drew));exact HO_5.out) (by decide)) hk (fun _ h => h.2)) (fun _ h => h.1))
         have n1_ := Aside0.mk (Kd.R_mono (Kd.R_keep (IsS119.apart (show IsS119 w0 _ g s0_0 t362 t363 from gI119_ HI0.out) (by (with_reducible repeat (first | apply Kd.R_alloc | apply Kd.R_drewN | apply Kd.R_drew));exact HO_6.out) (by decide)) hk (fun _ h => h.2)) (fun _ h => h.1))
         have n2_ := Aside0.mk (Kd.S_mono (Kd.S_keep (Kd.S_mono (ok := fun k_ => ((((w.heap.size ≤ k_)) ∧ (some k_ ≠ (u5 : Value).ownBlock ∧ (some k_ ≠ (u6 : Value).ownBlock ∧ (k_ ≠ gb338 ∧ (k_ ≠ gb342 ∧ k_ ≠ g))))) ∧ some k_ ≠ (.slice Ao71 y355.length co71 : Value).ownBlock)) (by (with_reducible repeat (first | apply Kd.S_alloc | apply Kd.S_drewN | apply Kd.S_drew));exact HO_343000.out) (fun k_ hk_ => (⟨hk_,hk_.1.2.2.2.2.2⟩ : _ ∧ k_ ≠ g))) hk (fun _ h => h.2)) (fun _ h => h.1))
         have n3_ := Aside0.mk (KeepBut.blk hk (g' := gb338) (o := .cells #[.slice none 0 0] 24 (0,0)) (by (with_reducible repeat (first | refine blk_drewN ?_ _ | refine blk_drew ?_ | refine blk_alloc ?_ _));exact BK338.out) NB338_0.out (by simp))
         have n4_ := Aside0.mk (KeepBut.blk hk (g' := gb342) (o := .cells #[u343000] 24 (0,0)) (by (with_reducible repeat (first | refine blk_drewN ?_ _ | refine blk_drew ?_ | refine blk_alloc ?_ _));exact BK342.out) NB342_0.out (by simp))
         have n5_ := Aside0.mk (Kd.R_mono (Kd.R_keep (IsS119.apart (show IsS119 w0 _ g s0_0 t362 t363 from gI119_ HI0.out) (by (with_reducible repeat (first | apply Kd.R_alloc | apply Kd.R_drewN | apply Kd.R_drew));exact HO357.out) (by decide)) hk (fun _ h => h.2)) (fun _ h => h.1))
         have n6_ := Aside0.mk (KeepBut.trans (gK_ HK.out) hk (.inl rfl))
         have n7_ := Aside0.mk (hb)
         have n8_ := Aside0.mk (hi)
         clear HO_5
         clear HO_6
         clear HO_343000
         clear BK338
         clear BK342
         clear HO357
         clear HK
         clear HB
         clear HI0
         have HO_5 := n0_
         have HO_6 := n1_
         have HO_343000 := n2_
         have BK338 := n3_
         have BK342 := n4_
         have HO357 := n5_
         have HK := n6_
         have HB := n7_
         have HI0 := n8_
         clear n0_ n1_ n2_ n3_ n4_ n5_ n6_ n7_ n8_
         (try clear hb)
         (try clear hb2)
         (try clear hk)
         (try clear hi)
         refine hK.out _ _ ((blk_cell BK342.out 0).trans rfl) (fun hHeld => ?_)
         clear hK K
         refine norm_ (a' := ?_) ?_ ?_
         rotate_left
         ·show Act.put _ (some 78) _ = _
          simp only [Act.put,List.setIfInBounds_toArray,List.set_cons_zero,List.set_cons_succ,i64_w,i32_w]
          rfl
         refine oN_ 6 (some 80) (mk_ 12 127) (fun K hK => ?_)
         refine gO_ Try.func67 #[.pointer (some ⟨g,0,none⟩),.int .i64 2] ?_
         with_reducible refine (spec_l1Once.calls g s0_0 t393 t394 2 t395 t396 t397 w0 _ ?side1 ?side2 A67.out).mono ?_
         (case side1 => exact gI119_ HI0.out)
         (case side2 => exact gB119_ HB.out)
         rintro e w76 ⟨rfl,hi,hb,hk⟩
         refine ⟨_,rfl,?_⟩
         have n0_ := Aside0.mk (Kd.R_mono (Kd.R_keep (IsS119.apart (show IsS119 w0 _ g s0_0 t393 t394 from gI119_ HI0.out) (by (with_reducible repeat (first | apply Kd.R_alloc | apply Kd.R_drewN | apply Kd.R_drew));exact HO_5.out) (by decide)) hk (fun _ h => h.2)) (fun _ h => h.1))
         have n1_ := Aside0.mk (Kd.R_mono (Kd.R_keep (IsS119.apart (show IsS119 w0 _ g s0_0 t393 t394 from gI119_ HI0.out) (by (with_reducible repeat (first | apply Kd.R_alloc | apply Kd.R_drewN | apply Kd.R_drew));exact HO_6.out) (by decide)) hk (fun _ h => h.2)) (fun _ h => h.1))
         have n2_ := Aside0.mk (Kd.S_mono (Kd.S_keep (Kd.S_mono (ok := fun k_ => ((((w.heap.size ≤ k_)) ∧ (some k_ ≠ (u5 : Value).ownBlock ∧ (some k_ ≠ (u6 : Value).ownBlock ∧ (k_ ≠ gb338 ∧ (k_ ≠ gb342 ∧ k_ ≠ g))))) ∧ some k_ ≠ (.slice Ao71 y355.length co71 : Value).ownBlock)) (by (with_reducible repeat (first | apply Kd.S_alloc | apply Kd.S_drewN | apply Kd.S_drew));exact HO_343000.out) (fun k_ hk_ => (⟨hk_,hk_.1.2.2.2.2.2⟩ : _ ∧ k_ ≠ g))) hk (fun _ h => h.2)) (fun _ h => h.1))
         have n3_ := Aside0.mk (KeepBut.blk hk (g' := gb338) (o := .cells #[.slice none 0 0] 24 (0,0)) (by (with_reducible repeat (first | refine blk_drewN ?_ _ | refine blk_drew ?_ | refine blk_alloc ?_ _));exact BK338.out) NB338_0.out (by simp))
         have n4_ := Aside0.mk (KeepBut.blk hk (g' := gb342) (o := .cells #[u343000] 24 (0,0)) (by (with_reducible repeat (first | refine blk_drewN ?_ _ | refine blk_drew ?_ | refine blk_alloc ?_ _));exact BK342.out) NB342_0.out (by simp))
         have n5_ := Aside0.mk (Kd.R_mono (Kd.R_keep (IsS119.apart (show IsS119 w0 _ g s0_0 t393 t394 from gI119_ HI0.out) (by (with_reducible repeat (first | apply Kd.R_alloc | apply Kd.R_drewN | apply Kd.R_drew));exact HO357.out) (by decide)) hk (fun _ h => h.2)) (fun _ h => h.1))
         have n6_ := Aside0.mk (KeepBut.trans (gK_ HK.out) hk (.inl rfl))
         have n7_ := Aside0.mk (hb)
         have n8_ := Aside0.mk (hi)
         clear HO_5
         clear HO_6
         clear HO_343000
         clear BK338
         clear BK342
         clear HO357
         clear HK
         clear HB
         clear HI0
         have HO_5 := n0_
         have HO_6 := n1_
         have HO_343000 := n2_
         have BK338 := n3_
         have BK342 := n4_
         have HO357 := n5_
         have HK := n6_
         have HB := n7_
         have HI0 := n8_
         clear n0_ n1_ n2_ n3_ n4_ n5_ n6_ n7_ n8_
         (try clear hb)
         (try clear hb2)
         (try clear hk)
         (try clear hi)
         obtain ⟨Ao77,co77,eo77⟩ := Kd.S_slice HO_343000.out
         (first | subst eo77 | (injection eo77 with f1_ f2_ f3_;have f4_ := f1_.symm;have f5_ := f3_.symm;clear f1_ f2_ f3_;subst f4_;subst f5_))
         obtain ⟨Ao78,co78,eo78⟩ := Kd.R_slice HO_6.out
         (first | subst eo78 | (injection eo78 with f1_ f2_ f3_;have f4_ := f1_.symm;have f5_ := f3_.symm;clear f1_ f2_ f3_;subst f4_;subst f5_))
         refine hK.out _ _ ((blk_cell BK342.out 0).trans rfl) (fun hHeld => ?_)
         clear hK K
         refine norm_ (a' := ?_) ?_ ?_
         rotate_left
         ·show Act.put _ (some 80) _ = _
          simp only [Act.put,List.setIfInBounds_toArray,List.set_cons_zero,List.set_cons_succ,i64_w,i32_w]
          rfl
         refine oN_ 7 (some 81) (mk_ 12 255) (fun K hK => ?_)
         refine gO_ Try.func22 #[.agg #[.slice Ao77 x343000_1.length co77],.slice Ao78 x6_1.length co78,.int .i64 t358,.int .i64 t392,.bool t395] ?_
         with_reducible refine (spec_Load.calls k1 _ _ x343000_1 _ _ x6_1 t358 t392 t395 t398 t399 _ ?side1 ?side2 ?side3 ?side4 A68.out).mono ?_
         (case side1 => exact cS_ (Kd.S_reads' HO_343000.out).2.2)
         (case side2 => exact (Kd.S_reads' HO_343000.out).2.1)
         (case side3 => exact cS_ (Kd.R_reads' HO_6.out).2.2)
         (case side4 => exact (Kd.R_reads' HO_6.out).2.1)
         rintro e w79 ⟨v400,rfl,ho0,hb⟩
         refine ⟨_,rfl,?_⟩
         have n0_ := Aside0.mk (Kd.R_elder' (by (with_reducible repeat (first | apply Kd.R_alloc | apply Kd.R_drewN | apply Kd.R_drew));exact HO_5.out) (Kd.R_base ho0) hb)
         have n1_ := Aside0.mk (Kd.R_elder' (by (with_reducible repeat (first | apply Kd.R_alloc | apply Kd.R_drewN | apply Kd.R_drew));exact HO_6.out) (Kd.R_base ho0) hb)
         have n2_ := Aside0.mk (Kd.S_elder' (by (with_reducible repeat (first | apply Kd.S_alloc | apply Kd.S_drewN | apply Kd.S_drew));exact HO_343000.out) (Kd.R_base ho0) hb)
         have n3_ := Aside0.mk (Kd.R_elder' (by (with_reducible repeat (first | apply Kd.R_alloc | apply Kd.R_drewN | apply Kd.R_drew));exact HO357.out) (Kd.R_base ho0) hb)
         have n4_ := Aside0.mk (Kd.R_lower (Kd.R_new' (Kd.R_new' (Kd.R_new' (Kd.R_newM (M := fun k_ => (w.heap.size ≤ k_)) ho0 (keep_size (w := w) (g := g) (row := none) (gK_ HK.out)) (fun k_ h_ => h_)) (Kd.R_lt (by (with_reducible repeat (first | apply Kd.R_alloc | apply Kd.R_drewN | apply Kd.R_drew));exact HO_5.out))) (Kd.R_lt (by (with_reducible repeat (first | apply Kd.R_alloc | apply Kd.R_drewN | apply Kd.R_drew));exact HO_6.out))) (Kd.R_lt (by (with_reducible repeat (first | apply Kd.R_alloc | apply Kd.R_drewN | apply Kd.R_drew));exact HO357.out))) (keep_size (w := w) (g := g) (row := none) (gK_ HK.out)))
         have n5_ := Aside0.mk (nB_ BK338.out hb)
         have n6_ := Aside0.mk (nB_ BK342.out hb)
         have n7_ := Aside0.mk (IsS119.below (gI119_ HI0.out) hb)
         have n8_ := Aside0.mk (KeepBut.trans (gK_ HK.out) (KeepBut.of_below hb g none) (.inl rfl))
         have n9_ := Aside0.mk (below_step (gB119_ HB.out) hb)
         clear HO_5
         clear HO_6
         clear HO_343000
         clear HO357
         clear BK338
         clear BK342
         clear HI0
         clear HK
         clear HB
         have HO_5 := n0_
         have HO_6 := n1_
         have HO_343000 := n2_
         have HO357 := n3_
         have HO401 := n4_
         have BK338 := n5_
         have BK342 := n6_
         have HI0 := n7_
         have HK := n8_
         have HB := n9_
         clear n0_ n1_ n2_ n3_ n4_ n5_ n6_ n7_ n8_ n9_
         (try clear hb)
         (try clear hb2)
         (try clear hk)
         (try clear hi)
         (try clear ho0)
         refine hK.out _ _ ((blk_cell BK342.out 0).trans rfl) (fun hHeld => ?_)
         clear hK K
         refine norm_ (a' := ?_) ?_ ?_
         rotate_left
         ·show Act.put _ (some 81) _ = _
          simp only [Act.put,List.setIfInBounds_toArray,List.set_cons_zero,List.set_cons_succ,i64_w,i32_w]
          rfl
         refine pU_ 8 (some 73) (mk_ 12 511) ?_
         refine pU_ 9 (some 82) (mk_ 12 1023) ?_
         refine pU_ 10 (some 83) (mk_ 12 2047) ?_
         refine pU_ 11 (some 6) (mk_ 12 4095) ?_
         refine done_ (done_of HT_.out (by kernel_rfl)) ?_
         try go_wp2
         go_roundg k1
         case measure => have := HK1.out;omega
         case rel => exact ⟨(x5_1),(t399),(wrap64 (x8_1 + 1)),(t396),(t397),(x343000_1),(.slice Ao77 x343000_1.length co77),(by first | rfl | (simp;done) | (simp [*];done)),H',⟨by have := HK1.out;omega⟩,⟨by (with_reducible repeat (first | apply Kd.R_alloc | apply Kd.R_drewN | apply Kd.R_drew));exact Kd.R_mono HO_5.out (fun _ hk => ⟨hk.1.1.1,hk.2⟩)⟩,⟨by (with_reducible repeat (first | apply Kd.R_alloc | apply Kd.R_drewN | apply Kd.R_drew));exact Kd.R_mono HO401.out (fun _ hk => ⟨hk.1.1.1.1,hk.1.1.2⟩)⟩,⟨by (with_reducible repeat (first | apply Kd.S_alloc | apply Kd.S_drewN | apply Kd.S_drew));exact Kd.S_mono HO_343000.out (fun _ hk => ⟨hk.1.1.1,⟨hk.1.1.2.1,⟨hk.2,⟨hk.1.1.2.2.2.1,⟨hk.1.1.2.2.2.2.1,hk.1.1.2.2.2.2.2⟩⟩⟩⟩⟩)⟩,⟨rW_ BK338.out⟩,⟨rW_ BK342.out⟩,⟨gI119_ HI0.out⟩,⟨gK_ HK.out⟩,⟨gB119_ HB.out⟩⟩
        ·rw [if_neg c65] at H
         have c65b0 : (t361 == 3) = false := beq_eq_false_iff_ne.mpr c65
         have c65b1 : (t361 != 3) = true := bne_iff_ne.mpr c65
         replace H := Option.bind_eq_some_iff.mp H
         obtain ⟨⟨t402,t405,t408⟩,A800,H⟩ := H
         replace H : (spec_l6DrawRight.l0 k1 t405 x6_1 t349 (wrap64 (x8_1 + 1)) s0_0 t362 t363 t402) = some (r1,r2,r3,r4) := H
         have A80 := Aside0.mk A800
         clear A800
         have H' := Aside0.mk H
         clear H
         go_wp2_with (first | ((with_reducible refine gate_dst (N := 21) rfl ?_);refine Kd.R_lit (Kd.int .i64) _ 3 ?hg (N := 21) ?hd (xs := ([0,1,2,5,23] : List Int)) (inner := [.int .i64 0,.int .i64 1,.int .i64 2,.int .i64 5,.int .i64 23]) (ok := fun _ => True) (okp := fun _ => True) ?hr ?hp (fun _ hk => hk) trivial (Below.refl _ _) (Nat.le_refl _) (by simp) ?_;(case hd => rfl);(case hg => rfl);(case hr => first | (go_simp;done) | (go_simp;rfl));(case hp => exact (Reps.one (show Kd.M (Kd.int .i64) _ _ _ 0 [.int .i64 0] from rfl) (Reps.one (show Kd.M (Kd.int .i64) _ _ _ 1 [.int .i64 1] from rfl) (Reps.one (show Kd.M (Kd.int .i64) _ _ _ 2 [.int .i64 2] from rfl) (Reps.one (show Kd.M (Kd.int .i64) _ _ _ 5 [.int .i64 5] from rfl) (Reps.one (show Kd.M (Kd.int .i64) _ _ _ 23 [.int .i64 23] from rfl) (Reps.none _ _)))))));intro v356 w81 ho82 hb hg_ hnew_;clear hg_ hnew_;(first | rw [← Ny355.out] at ho82 | (simp only [Int.reduceToNat] at ho82;rw [← Ny355.out] at ho82));have n0_ := Aside0.mk (Kd.R_elder' (by (with_reducible repeat (first | apply Kd.R_alloc | apply Kd.R_drewN | apply Kd.R_drew));exact HO_5.out) (Kd.R_base ho82) hb);have n1_ := Aside0.mk (Kd.R_elder' (by (with_reducible repeat (first | apply Kd.R_alloc | apply Kd.R_drewN | apply Kd.R_drew));exact HO_6.out) (Kd.R_base ho82) hb);have n2_ := Aside0.mk (Kd.S_elder' (by (with_reducible repeat (first | apply Kd.S_alloc | apply Kd.S_drewN | apply Kd.S_drew));exact HO_343000.out) (Kd.R_base ho82) hb);have n3_ := Aside0.mk (Kd.R_lower (Kd.R_new' (Kd.R_new' (Kd.R_newM (M := fun k_ => (w.heap.size ≤ k_)) ho82 (keep_size (w := w) (g := g) (row := none) (gK_ HK.out)) (fun k_ h_ => h_)) (Kd.R_lt (by (with_reducible repeat (first | apply Kd.R_alloc | apply Kd.R_drewN | apply Kd.R_drew));exact HO_5.out))) (Kd.R_lt (by (with_reducible repeat (first | apply Kd.R_alloc | apply Kd.R_drewN | apply Kd.R_drew));exact HO_6.out))) (keep_size (w := w) (g := g) (row := none) (gK_ HK.out)));have n4_ := Aside0.mk (nB_ BK338.out hb);have n5_ := Aside0.mk (nB_ BK342.out hb);have n6_ := Aside0.mk (IsS119.below (gI119_ HI0.out) hb);have n7_ := Aside0.mk (KeepBut.trans (gK_ HK.out) (KeepBut.of_below hb g none) (.inl rfl));have n8_ := Aside0.mk (below_step (gB119_ HB.out) hb);clear HO_5;clear HO_6;clear HO_343000;clear BK338;clear BK342;clear HI0;clear HK;clear HB;have HO_5 := n0_;have HO_6 := n1_;have HO_343000 := n2_;have HO357 := n3_;have BK338 := n4_;have BK342 := n5_;have HI0 := n6_;have HK := n7_;have HB := n8_;clear n0_ n1_ n2_ n3_ n4_ n5_ n6_ n7_ n8_;clear hb ho82;obtain ⟨Ao83,co83,eo83⟩ := Kd.R_slice HO357.out;subst eo83) | ((with_reducible refine gate_callee (f := 66) rfl ?_);refine gL_ (some 22) Try.func66 #[.pointer (some ⟨g,0,none⟩),.slice Ao83 y355.length co83] ?_;(with_reducible refine (spec_l1PickInt.calls g s0_0 x1001_1 x1002_1 _ _ y355 t358 t359 t360 w0 _ ?side1 ?side2 ?side3 ?side4 ?side5 A18.out).mono ?_);(case side1 => exact gI119_ HI0.out);(case side2 => exact gB119_ HB.out);(case side3 => exact cS_ (Kd.R_reads' HO357.out).2.2);(case side4 => exact (Kd.R_reads' HO357.out).2.1);(case side5 => exact far_slice (IsS119.own_ne HI0.out HO357.out (by decide)));rintro e w84 ⟨rfl,hi,hb,hk⟩;refine ⟨_,rfl,?_⟩;have n0_ := Aside0.mk (Kd.R_mono (Kd.R_keep (IsS119.apart (show IsS119 w0 _ g s0_0 x1001_1 x1002_1 from gI119_ HI0.out) (by (with_reducible repeat (first | apply Kd.R_alloc | apply Kd.R_drewN | apply Kd.R_drew));exact HO_5.out) (by decide)) hk (fun _ h => h.2)) (fun _ h => h.1));have n1_ := Aside0.mk (Kd.R_mono (Kd.R_keep (IsS119.apart (show IsS119 w0 _ g s0_0 x1001_1 x1002_1 from gI119_ HI0.out) (by (with_reducible repeat (first | apply Kd.R_alloc | apply Kd.R_drewN | apply Kd.R_drew));exact HO_6.out) (by decide)) hk (fun _ h => h.2)) (fun _ h => h.1));have n2_ := Aside0.mk (Kd.S_mono (Kd.S_keep (Kd.S_mono (ok := fun k_ => ((((w.heap.size ≤ k_)) ∧ (some k_ ≠ (u5 : Value).ownBlock ∧ (some k_ ≠ (u6 : Value).ownBlock ∧ (k_ ≠ gb338 ∧ (k_ ≠ gb342 ∧ k_ ≠ g))))) ∧ some k_ ≠ (.slice Ao83 y355.length co83 : Value).ownBlock)) (by (with_reducible repeat (first | apply Kd.S_alloc | apply Kd.S_drewN | apply Kd.S_drew));exact HO_343000.out) (fun k_ hk_ => (⟨hk_,hk_.1.2.2.2.2.2⟩ : _ ∧ k_ ≠ g))) hk (fun _ h => h.2)) (fun _ h => h.1));have n3_ := Aside0.mk (KeepBut.blk hk (g' := gb338) (o := .cells #[.slice none 0 0] 24 (0,0)) (by (with_reducible repeat (first | refine blk_drewN ?_ _ | refine blk_drew ?_ | refine blk_alloc ?_ _));exact BK338.out) NB338_0.out (by simp));have n4_ := Aside0.mk (KeepBut.blk hk (g' := gb342) (o := .cells #[u343000] 24 (0,0)) (by (with_reducible repeat (first | refine blk_drewN ?_ _ | refine blk_drew ?_ | refine blk_alloc ?_ _));exact BK342.out) NB342_0.out (by simp));have n5_ := Aside0.mk (Kd.R_mono (Kd.R_keep (IsS119.apart (show IsS119 w0 _ g s0_0 x1001_1 x1002_1 from gI119_ HI0.out) (by (with_reducible repeat (first | apply Kd.R_alloc | apply Kd.R_drewN | apply Kd.R_drew));exact HO357.out) (by decide)) hk (fun _ h => h.2)) (fun _ h => h.1));have n6_ := Aside0.mk (KeepBut.trans (gK_ HK.out) hk (.inl rfl));have n7_ := Aside0.mk (hb);have n8_ := Aside0.mk (hi);clear HO_5;clear HO_6;clear HO_343000;clear BK338;clear BK342;clear HO357;clear HK;clear HB;clear HI0;have HO_5 := n0_;have HO_6 := n1_;have HO_343000 := n2_;have BK338 := n3_;have BK342 := n4_;have HO357 := n5_;have HK := n6_;have HB := n7_;have HI0 := n8_;clear n0_ n1_ n2_ n3_ n4_ n5_ n6_ n7_ n8_;(try clear hb);(try clear hb2);(try clear hk);(try clear hi)) | ((with_reducible refine gate_callee (f := 84) rfl ?_);refine gL_ (some 24) Try.func84 #[.pointer (some ⟨g,0,none⟩),.int .i64 5] ?_;(with_reducible refine (spec_l1Below.calls g s0_0 t359 t360 5 t361 t362 t363 w0 _ ?side1 ?side2 A19.out).mono ?_);(case side1 => exact gI119_ HI0.out);(case side2 => exact gB119_ HB.out);rintro e w85 ⟨rfl,hi,hb,hk⟩;refine ⟨_,rfl,?_⟩;have n0_ := Aside0.mk (Kd.R_mono (Kd.R_keep (IsS119.apart (show IsS119 w0 _ g s0_0 t359 t360 from gI119_ HI0.out) (by (with_reducible repeat (first | apply Kd.R_alloc | apply Kd.R_drewN | apply Kd.R_drew));exact HO_5.out) (by decide)) hk (fun _ h => h.2)) (fun _ h => h.1));have n1_ := Aside0.mk (Kd.R_mono (Kd.R_keep (IsS119.apart (show IsS119 w0 _ g s0_0 t359 t360 from gI119_ HI0.out) (by (with_reducible repeat (first | apply Kd.R_alloc | apply Kd.R_drewN | apply Kd.R_drew));exact HO_6.out) (by decide)) hk (fun _ h => h.2)) (fun _ h => h.1));have n2_ := Aside0.mk (Kd.S_mono (Kd.S_keep (Kd.S_mono (ok := fun k_ => ((((w.heap.size ≤ k_)) ∧ (some k_ ≠ (u5 : Value).ownBlock ∧ (some k_ ≠ (u6 : Value).ownBlock ∧ (k_ ≠ gb338 ∧ (k_ ≠ gb342 ∧ k_ ≠ g))))) ∧ some k_ ≠ (.slice Ao83 y355.length co83 : Value).ownBlock)) (by (with_reducible repeat (first | apply Kd.S_alloc | apply Kd.S_drewN | apply Kd.S_drew));exact HO_343000.out) (fun k_ hk_ => (⟨hk_,hk_.1.2.2.2.2.2⟩ : _ ∧ k_ ≠ g))) hk (fun _ h => h.2)) (fun _ h => h.1));have n3_ := Aside0.mk (KeepBut.blk hk (g' := gb338) (o := .cells #[.slice none 0 0] 24 (0,0)) (by (with_reducible repeat (first | refine blk_drewN ?_ _ | refine blk_drew ?_ | refine blk_alloc ?_ _));exact BK338.out) NB338_0.out (by simp));have n4_ := Aside0.mk (KeepBut.blk hk (g' := gb342) (o := .cells #[u343000] 24 (0,0)) (by (with_reducible repeat (first | refine blk_drewN ?_ _ | refine blk_drew ?_ | refine blk_alloc ?_ _));exact BK342.out) NB342_0.out (by simp));have n5_ := Aside0.mk (Kd.R_mono (Kd.R_keep (IsS119.apart (show IsS119 w0 _ g s0_0 t359 t360 from gI119_ HI0.out) (by (with_reducible repeat (first | apply Kd.R_alloc | apply Kd.R_drewN | apply Kd.R_drew));exact HO357.out) (by decide)) hk (fun _ h => h.2)) (fun _ h => h.1));have n6_ := Aside0.mk (KeepBut.trans (gK_ HK.out) hk (.inl rfl));have n7_ := Aside0.mk (hb);have n8_ := Aside0.mk (hi);clear HO_5;clear HO_6;clear HO_343000;clear BK338;clear BK342;clear HO357;clear HK;clear HB;clear HI0;have HO_5 := n0_;have HO_6 := n1_;have HO_343000 := n2_;have BK338 := n3_;have BK342 := n4_;have HO357 := n5_;have HK := n6_;have HB := n7_;have HI0 := n8_;clear n0_ n1_ n2_ n3_ n4_ n5_ n6_ n7_ n8_;(try clear hb);(try clear hb2);(try clear hk);(try clear hi);have hnb86 := NB342_338.out;have hnc86 := NB338_342.out;have hnb87 := NB342_0.out;have hnc87 := NB0_342.out;have hcz88_0 : w85.cell? ⟨gb342,0,none⟩ = some (u343000) := (blk_cell BK342.out 0).trans rfl;have hfz88_0 := blk_frozen BK342.out 0;obtain ⟨Ao89,co89,eo89⟩ := Kd.S_slice HO_343000.out;subst eo89;obtain ⟨Ao90,co90,eo90⟩ := Kd.R_slice HO_5.out;subst eo90) | ((with_reducible refine gate_callee (f := 46) rfl ?_);refine gL_ (some 30) Try.func46 #[.agg #[.slice Ao89 x343000_1.length co89],.slice Ao90 x5_1.length co90,.int .i64 t358,.int .i64 x8_1] ?_;(with_reducible refine (spec_Swap.callsS k1 _ _ x343000_1 _ _ x5_1 t358 x8_1 t402 t405 t408 _ ?side1 ?side2 ?side3 ?side4 A80.out).mono ?_);(case side1 => exact cS_ (Kd.S_reads' HO_343000.out).2.2);(case side2 => exact (Kd.S_reads' HO_343000.out).2.1);(case side3 => exact cS_ (Kd.R_reads' HO_5.out).2.2);(case side4 => exact (Kd.R_reads' HO_5.out).2.1);rintro e w91 ⟨v403,v406,rfl,ho0,ho1,hb⟩;refine ⟨_,rfl,?_⟩;have n0_ := Aside0.mk (Kd.R_elder' (by (with_reducible repeat (first | apply Kd.R_alloc | apply Kd.R_drewN | apply Kd.R_drew));exact HO_5.out) (Kd.R_base ho1) hb);have n1_ := Aside0.mk (Kd.R_elder' (by (with_reducible repeat (first | apply Kd.R_alloc | apply Kd.R_drewN | apply Kd.R_drew));exact HO_6.out) (Kd.R_base ho1) hb);have n2_ := Aside0.mk (Kd.S_elder' (by (with_reducible repeat (first | apply Kd.S_alloc | apply Kd.S_drewN | apply Kd.S_drew));exact HO_343000.out) (Kd.R_base ho1) hb);have n3_ := Aside0.mk (Kd.R_elder' (by (with_reducible repeat (first | apply Kd.R_alloc | apply Kd.R_drewN | apply Kd.R_drew));exact HO357.out) (Kd.R_base ho1) hb);have n4_ := Aside0.mk (Kd.S_lower (Kd.S_mono (ok' := fun k_ => (w.heap.size ≤ k_) ∧ some k_ ≠ (v406 : Value).ownBlock ∧ some k_ ≠ (.slice Ao90 x5_1.length co90 : Value).ownBlock ∧ some k_ ≠ (u6 : Value).ownBlock ∧ some k_ ≠ (.slice Ao83 y355.length co83 : Value).ownBlock ∧ k_ ≠ gb338 ∧ k_ ≠ gb342 ∧ k_ ≠ g) ho0 (fun k_ hk_ => ⟨(Nat.le_trans (keep_size (w := w) (g := g) (row := none) (gK_ HK.out)) hk_.1),hk_.2,(Kd.fresh' (Kd.R_lt (by (with_reducible repeat (first | apply Kd.R_alloc | apply Kd.R_drewN | apply Kd.R_drew));exact HO_5.out)) k_ hk_.1),(Kd.fresh' (Kd.R_lt (by (with_reducible repeat (first | apply Kd.R_alloc | apply Kd.R_drewN | apply Kd.R_drew));exact HO_6.out)) k_ hk_.1),(Kd.fresh' (Kd.R_lt (by (with_reducible repeat (first | apply Kd.R_alloc | apply Kd.R_drewN | apply Kd.R_drew));exact HO357.out)) k_ hk_.1),(Kd.freshB (g := gb338) (o := .cells #[.slice none 0 0] 24 (0,0)) (by (with_reducible repeat (first | refine blk_drewN ?_ _ | refine blk_drew ?_ | refine blk_alloc ?_ _));exact BK338.out) k_ hk_.1),(Kd.freshB (g := gb342) (o := .cells #[.slice Ao89 x343000_1.length co89] 24 (0,0)) (by (with_reducible repeat (first | refine blk_drewN ?_ _ | refine blk_drew ?_ | refine blk_alloc ?_ _));exact BK342.out) k_ hk_.1),(IsS119.fresh (gI119_ HI0.out) k_ hk_.1)⟩)) (keep_size (w := w) (g := g) (row := none) (gK_ HK.out)));have n5_ := Aside0.mk (Kd.R_lower (Kd.R_new' (Kd.R_new' (Kd.R_new' (Kd.R_newM (M := fun k_ => (w.heap.size ≤ k_)) (Kd.R_mono (ok' := fun k_ => True) ho1 (fun _ hk_ => trivial)) (keep_size (w := w) (g := g) (row := none) (gK_ HK.out)) (fun k_ h_ => h_)) (Kd.R_lt (by (with_reducible repeat (first | apply Kd.R_alloc | apply Kd.R_drewN | apply Kd.R_drew));exact HO_5.out))) (Kd.R_lt (by (with_reducible repeat (first | apply Kd.R_alloc | apply Kd.R_drewN | apply Kd.R_drew));exact HO_6.out))) (Kd.R_lt (by (with_reducible repeat (first | apply Kd.R_alloc | apply Kd.R_drewN | apply Kd.R_drew));exact HO357.out))) (keep_size (w := w) (g := g) (row := none) (gK_ HK.out)));have n6_ := Aside0.mk (nB_ BK338.out hb);have n7_ := Aside0.mk (nB_ BK342.out hb);have n8_ := Aside0.mk (IsS119.below (gI119_ HI0.out) hb);have n9_ := Aside0.mk (KeepBut.trans (gK_ HK.out) (KeepBut.of_below hb g none) (.inl rfl));have n10_ := Aside0.mk (below_step (gB119_ HB.out) hb);clear HO_5;clear HO_6;clear HO_343000;clear HO357;clear BK338;clear BK342;clear HI0;clear HK;clear HB;have HO_5 := n0_;have HO_6 := n1_;have HO_343000 := n2_;have HO357 := n3_;have HO404 := n4_;have HO407 := n5_;have BK338 := n6_;have BK342 := n7_;have HI0 := n8_;have HK := n9_;have HB := n10_;clear n0_ n1_ n2_ n3_ n4_ n5_ n6_ n7_ n8_ n9_ n10_;(try clear hb);(try clear hb2);(try clear hk);(try clear hi);(try clear ho0);(try clear ho1);obtain ⟨Ao92,co92,eo92⟩ := Kd.S_slice HO404.out;subst eo92;have hcz93_0 : w91.cell? ⟨gb342,0,none⟩ = some (.slice Ao89 x343000_1.length co89) := (blk_cell BK342.out 0).trans rfl;have hfz93_0 := blk_frozen BK342.out 0))
         go_roundg k1
         case measure => have := HK1.out;omega
         case rel => exact ⟨(t405),(x6_1),(wrap64 (x8_1 + 1)),(t362),(t363),(t402),(.slice Ao92 t402.length co92),(by first | rfl | (simp;done) | (simp [*];done)),H',⟨by have := HK1.out;omega⟩,⟨by (with_reducible repeat (first | apply Kd.R_alloc | apply Kd.R_drewN | apply Kd.R_drew));exact Kd.R_mono (Kd.R_far (p := ⟨gb342,0,none⟩) (Kd.R_types HO407.out BK342.out (by decide)) (fun _ hk => hk.2) (.slice Ao92 t402.length co92)) (fun _ hk => ⟨hk.1.1.1.1.1,hk.1.1.2⟩)⟩,⟨by (with_reducible repeat (first | apply Kd.R_alloc | apply Kd.R_drewN | apply Kd.R_drew));exact Kd.R_mono (Kd.R_far (p := ⟨gb342,0,none⟩) (Kd.R_types HO_6.out BK342.out (by decide)) (fun _ hk => hk.2) (.slice Ao92 t402.length co92)) (fun _ hk => ⟨hk.1.1.1.1,hk.1.2⟩)⟩,⟨by (with_reducible repeat (first | apply Kd.S_alloc | apply Kd.S_drewN | apply Kd.S_drew));exact Kd.S_mono (Kd.S_far (p := ⟨gb342,0,none⟩) (Kd.S_mono HO404.out (fun k_ hk => (⟨hk,hk.2.2.2.2.2.2.1⟩ : _ ∧ k_ ≠ gb342))) (fun _ hk => hk.2) (.slice Ao92 t402.length co92)) (fun _ hk => ⟨hk.1.1,⟨hk.1.2.1,⟨hk.1.2.2.2.1,⟨hk.1.2.2.2.2.2.1,⟨hk.1.2.2.2.2.2.2.1,hk.1.2.2.2.2.2.2.2⟩⟩⟩⟩⟩)⟩,⟨by (with_reducible repeat (first | refine blk_drewN ?_ _ | refine blk_drew ?_ | refine blk_alloc ?_ _));refine blk_far ?_ NB338_342.out _;(with_reducible repeat (first | refine blk_drewN ?_ _ | refine blk_drew ?_ | refine blk_alloc ?_ _));exact BK338.out⟩,⟨by (with_reducible repeat (first | refine blk_drewN ?_ _ | refine blk_drew ?_ | refine blk_alloc ?_ _));refine blk_put (cs := #[.slice Ao89 x343000_1.length co89]) ?_ 0 _ rfl;(with_reducible repeat (first | refine blk_drewN ?_ _ | refine blk_drew ?_ | refine blk_alloc ?_ _));exact BK342.out⟩,⟨gI119_ HI0.out⟩,⟨gK_ HK.out⟩,⟨gB119_ HB.out⟩⟩
    ·rw [if_neg c17] at H
     have c17b0 : decide (x8_1 < t349) = false := decide_eq_false c17
     clear c17
     replace H := Option.bind_eq_some_iff.mp H
     obtain ⟨⟨t352,t353,t354⟩,A940,H⟩ := H
     replace H : (if t352 = true then (some (x343000_1,x6_1,t353,t354)) else (some (x343000_1,x5_1,t353,t354))) = some (r1,r2,r3,r4) := H
     have A94 := Aside0.mk A940
     clear A940
     by_cases c95 : t352 = true
     ·subst c95
      have H1 : (some (x343000_1,x6_1,t353,t354)) = some (r1,r2,r3,r4) := by rw [if_pos rfl] at H;exact H
      clear H
      have H := H1
      clear H1
      simp only [Option.some.injEq,Prod.mk.injEq] at H
      obtain ⟨rfl,rfl,rfl,rfl⟩ := H
      go_wp2_with (first | ((with_reducible refine gate_callee (f := 67) rfl ?_);refine gL_ (some 85) Try.func67 #[.pointer (some ⟨g,0,none⟩),.int .i64 2] ?_;(with_reducible refine (spec_l1Once.calls g s0_0 x1001_1 x1002_1 2 true t353 t354 w0 _ ?side1 ?side2 A94.out).mono ?_);(case side1 => exact gI119_ HI0.out);(case side2 => exact gB119_ HB.out);rintro e w96 ⟨rfl,hi,hb,hk⟩;refine ⟨_,rfl,?_⟩;have n0_ := Aside0.mk (Kd.R_mono (Kd.R_keep (IsS119.apart (show IsS119 w0 _ g s0_0 x1001_1 x1002_1 from gI119_ HI0.out) (by (with_reducible repeat (first | apply Kd.R_alloc | apply Kd.R_drewN | apply Kd.R_drew));exact HO_5.out) (by decide)) hk (fun _ h => h.2)) (fun _ h => h.1));have n1_ := Aside0.mk (Kd.R_mono (Kd.R_keep (IsS119.apart (show IsS119 w0 _ g s0_0 x1001_1 x1002_1 from gI119_ HI0.out) (by (with_reducible repeat (first | apply Kd.R_alloc | apply Kd.R_drewN | apply Kd.R_drew));exact HO_6.out) (by decide)) hk (fun _ h => h.2)) (fun _ h => h.1));have n2_ := Aside0.mk (Kd.S_mono (Kd.S_keep (Kd.S_mono (ok := fun k_ => (((w.heap.size ≤ k_)) ∧ (some k_ ≠ (u5 : Value).ownBlock ∧ (some k_ ≠ (u6 : Value).ownBlock ∧ (k_ ≠ gb338 ∧ (k_ ≠ gb342 ∧ k_ ≠ g)))))) (by (with_reducible repeat (first | apply Kd.S_alloc | apply Kd.S_drewN | apply Kd.S_drew));exact HO_343000.out) (fun k_ hk_ => (⟨hk_,hk_.2.2.2.2.2⟩ : _ ∧ k_ ≠ g))) hk (fun _ h => h.2)) (fun _ h => h.1));have n3_ := Aside0.mk (KeepBut.blk hk (g' := gb338) (o := .cells #[.slice none 0 0] 24 (0,0)) (by (with_reducible repeat (first | refine blk_drewN ?_ _ | refine blk_drew ?_ | refine blk_alloc ?_ _));exact BK338.out) NB338_0.out (by simp));have n4_ := Aside0.mk (KeepBut.blk hk (g' := gb342) (o := .cells #[u343000] 24 (0,0)) (by (with_reducible repeat (first | refine blk_drewN ?_ _ | refine blk_drew ?_ | refine blk_alloc ?_ _));exact BK342.out) NB342_0.out (by simp));have n5_ := Aside0.mk (KeepBut.trans (gK_ HK.out) hk (.inl rfl));have n6_ := Aside0.mk (hb);have n7_ := Aside0.mk (hi);clear HO_5;clear HO_6;clear HO_343000;clear BK338;clear BK342;clear HK;clear HB;clear HI0;have HO_5 := n0_;have HO_6 := n1_;have HO_343000 := n2_;have BK338 := n3_;have BK342 := n4_;have HK := n5_;have HB := n6_;have HI0 := n7_;clear n0_ n1_ n2_ n3_ n4_ n5_ n6_ n7_;(try clear hb);(try clear hb2);(try clear hk);(try clear hi);have hnb97 := NB342_338.out;have hnc97 := NB338_342.out;have hnb98 := NB342_0.out;have hnc98 := NB0_342.out;have hcz99_0 : w96.cell? ⟨gb342,0,none⟩ = some (u343000) := (blk_cell BK342.out 0).trans rfl;have hfz99_0 := blk_frozen BK342.out 0;obtain ⟨Ao100,co100,eo100⟩ := Kd.S_slice HO_343000.out;subst eo100;have hnb101 := NB338_0.out;have hnc101 := NB0_338.out;have hcz102_0 : w96.cell? ⟨gb338,0,none⟩ = some (.slice none 0 0) := (blk_cell BK338.out 0).trans rfl;have hfz102_0 := blk_frozen BK338.out 0))
      refine bodyPost_ret (results_ct rfl _ _ gb338 24 #[.slice Ao100 x343000_1.length co100] (0,0) _ rfl (by (with_reducible repeat (first | refine blk_drewN ?_ _ | refine blk_drew ?_ | refine blk_alloc ?_ _));refine blk_put (cs := #[.slice none 0 0]) ?_ 0 _ rfl;exact rW_ BK338.out) Try.underlying24 rfl (by kernel_rfl)) rfl ?_
      exact ⟨_,_,fR_,by (with_reducible repeat (first | apply Kd.S_alloc | apply Kd.S_drewN | apply Kd.S_drew));exact Kd.S_mono (Kd.S_far (p := ⟨gb338,0,none⟩) (Kd.S_mono HO_343000.out (fun k_ hk => (⟨hk,hk.2.2.2.1⟩ : _ ∧ k_ ≠ gb338))) (fun _ hk => hk.2) (.slice Ao100 x343000_1.length co100)) (fun _ hk => ⟨hk.1.1,hk.1.2.2.1⟩),by (with_reducible repeat (first | apply Kd.R_alloc | apply Kd.R_drewN | apply Kd.R_drew));exact Kd.R_mono (Kd.R_far (p := ⟨gb338,0,none⟩) (Kd.R_types HO_6.out BK338.out (by decide)) (fun _ hk => hk.2) (.slice Ao100 x343000_1.length co100)) (fun _ hk => hk.1.1),gI119_ HI0.out,gB119_ HB.out,gK_ HK.out⟩
     ·replace c95 := Bool.eq_false_iff.mpr c95
      subst c95
      have H1 : (some (x343000_1,x5_1,t353,t354)) = some (r1,r2,r3,r4) := by rw [if_neg (show ¬ (false = true) by decide)] at H;exact H
      clear H
      have H := H1
      clear H1
      simp only [Option.some.injEq,Prod.mk.injEq] at H
      obtain ⟨rfl,rfl,rfl,rfl⟩ := H
      go_wp2_with (first | ((with_reducible refine gate_callee (f := 67) rfl ?_);refine gL_ (some 85) Try.func67 #[.pointer (some ⟨g,0,none⟩),.int .i64 2] ?_;(with_reducible refine (spec_l1Once.calls g s0_0 x1001_1 x1002_1 2 false t353 t354 w0 _ ?side1 ?side2 A94.out).mono ?_);(case side1 => exact gI119_ HI0.out);(case side2 => exact gB119_ HB.out);rintro e w103 ⟨rfl,hi,hb,hk⟩;refine ⟨_,rfl,?_⟩;have n0_ := Aside0.mk (Kd.R_mono (Kd.R_keep (IsS119.apart (show IsS119 w0 _ g s0_0 x1001_1 x1002_1 from gI119_ HI0.out) (by (with_reducible repeat (first | apply Kd.R_alloc | apply Kd.R_drewN | apply Kd.R_drew));exact HO_5.out) (by decide)) hk (fun _ h => h.2)) (fun _ h => h.1));have n1_ := Aside0.mk (Kd.R_mono (Kd.R_keep (IsS119.apart (show IsS119 w0 _ g s0_0 x1001_1 x1002_1 from gI119_ HI0.out) (by (with_reducible repeat (first | apply Kd.R_alloc | apply Kd.R_drewN | apply Kd.R_drew));exact HO_6.out) (by decide)) hk (fun _ h => h.2)) (fun _ h => h.1));have n2_ := Aside0.mk (Kd.S_mono (Kd.S_keep (Kd.S_mono (ok := fun k_ => (((w.heap.size ≤ k_)) ∧ (some k_ ≠ (u5 : Value).ownBlock ∧ (some k_ ≠ (u6 : Value).ownBlock ∧ (k_ ≠ gb338 ∧ (k_ ≠ gb342 ∧ k_ ≠ g)))))) (by (with_reducible repeat (first | apply Kd.S_alloc | apply Kd.S_drewN | apply Kd.S_drew));exact HO_343000.out) (fun k_ hk_ => (⟨hk_,hk_.2.2.2.2.2⟩ : _ ∧ k_ ≠ g))) hk (fun _ h => h.2)) (fun _ h => h.1));have n3_ := Aside0.mk (KeepBut.blk hk (g' := gb338) (o := .cells #[.slice none 0 0] 24 (0,0)) (by (with_reducible repeat (first | refine blk_drewN ?_ _ | refine blk_drew ?_ | refine blk_alloc ?_ _));exact BK338.out) NB338_0.out (by simp));have n4_ := Aside0.mk (KeepBut.blk hk (g' := gb342) (o := .cells #[u343000] 24 (0,0)) (by (with_reducible repeat (first | refine blk_drewN ?_ _ | refine blk_drew ?_ | refine blk_alloc ?_ _));exact BK342.out) NB342_0.out (by simp));have n5_ := Aside0.mk (KeepBut.trans (gK_ HK.out) hk (.inl rfl));have n6_ := Aside0.mk (hb);have n7_ := Aside0.mk (hi);clear HO_5;clear HO_6;clear HO_343000;clear BK338;clear BK342;clear HK;clear HB;clear HI0;have HO_5 := n0_;have HO_6 := n1_;have HO_343000 := n2_;have BK338 := n3_;have BK342 := n4_;have HK := n5_;have HB := n6_;have HI0 := n7_;clear n0_ n1_ n2_ n3_ n4_ n5_ n6_ n7_;(try clear hb);(try clear hb2);(try clear hk);(try clear hi);have hnb104 := NB342_338.out;have hnc104 := NB338_342.out;have hnb105 := NB342_0.out;have hnc105 := NB0_342.out;have hcz106_0 : w103.cell? ⟨gb342,0,none⟩ = some (u343000) := (blk_cell BK342.out 0).trans rfl;have hfz106_0 := blk_frozen BK342.out 0;obtain ⟨Ao107,co107,eo107⟩ := Kd.S_slice HO_343000.out;subst eo107;have hnb108 := NB338_0.out;have hnc108 := NB0_338.out;have hcz109_0 : w103.cell? ⟨gb338,0,none⟩ = some (.slice none 0 0) := (blk_cell BK338.out 0).trans rfl;have hfz109_0 := blk_frozen BK338.out 0))
      refine bodyPost_ret (results_ct rfl _ _ gb338 24 #[.slice Ao107 x343000_1.length co107] (0,0) _ rfl (by (with_reducible repeat (first | refine blk_drewN ?_ _ | refine blk_drew ?_ | refine blk_alloc ?_ _));refine blk_put (cs := #[.slice none 0 0]) ?_ 0 _ rfl;exact rW_ BK338.out) Try.underlying24 rfl (by kernel_rfl)) rfl ?_
      exact ⟨_,_,fR_,by (with_reducible repeat (first | apply Kd.S_alloc | apply Kd.S_drewN | apply Kd.S_drew));exact Kd.S_mono (Kd.S_far (p := ⟨gb338,0,none⟩) (Kd.S_mono HO_343000.out (fun k_ hk => (⟨hk,hk.2.2.2.1⟩ : _ ∧ k_ ≠ gb338))) (fun _ hk => hk.2) (.slice Ao107 x343000_1.length co107)) (fun _ hk => ⟨hk.1.1,hk.1.2.1⟩),by (with_reducible repeat (first | apply Kd.R_alloc | apply Kd.R_drewN | apply Kd.R_drew));exact Kd.R_mono (Kd.R_far (p := ⟨gb338,0,none⟩) (Kd.R_types HO_5.out BK338.out (by decide)) (fun _ hk => hk.2) (.slice Ao107 x343000_1.length co107)) (fun _ hk => hk.1.1),gI119_ HI0.out,gB119_ HB.out,gK_ HK.out⟩
 ·rw [if_neg c3] at H
  exact absurd H (by simp)
theorem spec_l6DrawRight.calls (k : Nat) (g : Nat) (s0_0 : List Int) (s0_1 : Int) (s0_2 : Int) (r1 : List (List (S43))) (r2 : List Int) (r3 : Int) (r4 : Int) (w0 w : World) (hI : IsS119 w0 w g s0_0 s0_1 s0_2) (hB : Below w0.heap.size w0 w) (h : spec_l6DrawRight.f k s0_0 s0_1 s0_2 = some (r1,r2,r3,r4)) :
  Calls Try.prog 97 #[.pointer (some ⟨g,0,none⟩)] w fun e w' => ∃ v0_ v1_ : Value,e = .returned (.tuple #[.agg #[v0_],v1_]) ∧ Kd.V (Kd.slice 43 k43) 44 w' w.heap.size (fun k_ => (w.heap.size ≤ k_) ∧ some k_ ≠ (v1_ : Value).ownBlock) v0_ r1 ∧ Kd.R (Kd.int .i64) 3 w' w.heap.size (fun k_ => (w.heap.size ≤ k_)) v1_ r2 ∧ IsS119 w0 w' g s0_0 r3 r4 ∧ Below w0.heap.size w0 w' ∧ KeepBut w w' g none :=
 (spec_l6DrawRight.callsS k g s0_0 s0_1 s0_2 r1 r2 r3 r4 w0 w hI hB h).mono fun e w' ⟨v0_,v1_,h0_,h1_,h2_⟩ => ⟨v0_,v1_,h0_,Kd.R_V (S_Rs h1_),h2_⟩
end Go.Proofs.Ythbcnakmnbilhaa.PFnLoad
