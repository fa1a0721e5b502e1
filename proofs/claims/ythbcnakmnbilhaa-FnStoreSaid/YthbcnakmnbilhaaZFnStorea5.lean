/- A part of the proof that the law FnStore holds for every input: the words, functions and walks that its row needs, without a condition of their own. -/
import Derived.Test.YthbcnakmnbilhaaZFnStorea2
import Derived.Test.YthbcnakmnbilhaaZFnStorea3
import Derived.Test.YthbcnakmnbilhaaZFnStorea4
import Derived.Test.YthbcnakmnbilhaaZFnStores
namespace Go.Proofs.Ythbcnakmnbilhaa.PFnStore
open Go.RowKit Go.Proofs.YthbcnakmnbilhaaW.PrintWords Go.Proofs.YthbcnakmnbilhaaW.PrintLast Go.Proofs.YthbcnakmnbilhaaW.PrintMore Go.Proofs.Ythbcnakmnbilhaa.SepMark
attribute [local go_sem] max2_int min2_int max_two min_two max_three min_three max_four min_four   -- for this text's walks alone
set_option linter.unusedVariables false
set_option linter.unusedSimpArgs false
def impl_Store.j0 : Nat → List Int → Int → Int → Bool → Bool → List (List (S43)) → Option ((List (List (S43))) × List Int)
  | 0,_,_,_,_,_,_ => none
  | k + 1,x1,x2,x3,x4,x34,x158000 => if x34 = true then ((impl_copyInts.f x1).bind fun t162 => (some (x158000,t162))) else ((impl_Memory_store.f x158000 x1 x2 x3 x4).bind fun bt165 => (some (bt165.1,bt165.2)))
def impl_Store.f (k : Nat) (l0_0 : List (List (S43))) (l1 : List Int) (a2 : Int) (a3 : Int) (a4 : Bool) : Option ((List (List (S43))) × List Int) := (impl_copyMemory.f k l0_0).bind fun t154 => ((impl_MemoryOk.f k l0_0).bind fun t158 => (if t158 = true then ((impl_ViewOk.f k l0_0 l1).bind fun t159 => (if t159 = true then ((impl_isCell.f a2).bind fun t160 => (if t160 = true then ((impl_Memory_hasRoom.f l0_0 a2).bind fun t161 => (impl_Store.j0 k l1 a2 a3 a4 (!t161) t154)) else (impl_Store.j0 k l1 a2 a3 a4 true t154))) else (impl_Store.j0 k l1 a2 a3 a4 true t154))) else (impl_Store.j0 k l1 a2 a3 a4 true t154)))
set_option maxHeartbeats 8000000 in
set_option maxRecDepth 100000 in
theorem impl_Store.callsS (k : Nat) (A0_0 : Option Addr) (c0_0 : Nat) (l0_0 : List (List (S43))) (A1 : Option Addr) (c1 : Nat) (l1 : List Int) (a2 : Int) (a3 : Int) (a4 : Bool) (r1 : List (List (S43))) (r2 : List Int) (w : World) (hr0_0 : Kd.C (Kd.slice 43 k43) w A0_0 l0_0.length l0_0) (hc0_0 : l0_0.length ≤ c0_0) (hr1 : Kd.C (Kd.int .i64) w A1 l1.length l1) (hc1 : l1.length ≤ c1) (h : impl_Store.f k l0_0 l1 a2 a3 a4 = some (r1,r2)) :
  Calls Try.prog 20 #[.agg #[.slice A0_0 l0_0.length c0_0],.slice A1 l1.length c1,.int .i64 a2,.int .i64 a3,.bool a4] w fun e w' => ∃ v0_ v1_ : Value,e = .returned (.tuple #[.agg #[v0_],v1_]) ∧ Kd.S (sslice 43 k43) 44 w' w.heap.size (fun k_ => some k_ ≠ (v1_ : Value).ownBlock) v0_ r1 ∧ Kd.R (Kd.int .i64) 3 w' w.heap.size (fun _ => True) v1_ r2 ∧ Below w.heap.size w w' := by
 have hu24 := Try.underlying24
 have HR0_0 := Aside0.mk hr0_0
 have HC0_0 := Aside0.mk hc0_0
 clear hr0_0 hc0_0
 have HR1 := Aside0.mk hr1
 have HC1 := Aside0.mk hc1
 clear hr1 hc1
 have HB := Aside0.mk (Below.refl w.heap.size w)
 have H : ((impl_copyMemory.f k l0_0).bind fun t154 => ((impl_MemoryOk.f k l0_0).bind fun t158 => (if t158 = true then ((impl_ViewOk.f k l0_0 l1).bind fun t159 => (if t159 = true then ((impl_isCell.f a2).bind fun t160 => (if t160 = true then ((impl_Memory_hasRoom.f l0_0 a2).bind fun t161 => (impl_Store.j0 k l1 a2 a3 a4 (!t161) t154)) else (impl_Store.j0 k l1 a2 a3 a4 true t154))) else (impl_Store.j0 k l1 a2 a3 a4 true t154))) else (impl_Store.j0 k l1 a2 a3 a4 true t154)))) = some (r1,r2) := h
 clear h
 replace H := Option.bind_eq_some_iff.mp H
 obtain ⟨t154,A60,H⟩ := H
 replace H : ((impl_MemoryOk.f k l0_0).bind fun t158 => (if t158 = true then ((impl_ViewOk.f k l0_0 l1).bind fun t159 => (if t159 = true then ((impl_isCell.f a2).bind fun t160 => (if t160 = true then ((impl_Memory_hasRoom.f l0_0 a2).bind fun t161 => (impl_Store.j0 k l1 a2 a3 a4 (!t161) t154)) else (impl_Store.j0 k l1 a2 a3 a4 true t154))) else (impl_Store.j0 k l1 a2 a3 a4 true t154))) else (impl_Store.j0 k l1 a2 a3 a4 true t154))) = some (r1,r2) := H
 have A6 := Aside0.mk A60
 clear A60
 have HC7 := Aside0.mk H
 clear H
 go_enter Try.func20,Try.ntmps20
 go_upto_region 2 with (first | ((with_reducible refine gate_dst (N := 5) rfl ?_);refine bX_ 5 (cs := #[.slice A0_0 l0_0.length c0_0]) (t := 24) ?_;intro gb152 hg w8 hbox hb;have n0_ := Aside0.mk (sT_ HB.out hb);have n1_ := Aside0.mk (hbox);have n2_ := Aside0.mk (sZ_ hg HB.out);have n3_ := Aside0.mk (sZ_ hg HB.out);clear HB;have HB := n0_;have BK152 := n1_;have GW152 := n2_;have GE152 := n3_;clear n0_ n1_ n2_ n3_;clear hb hbox hg) | ((with_reducible refine gate_dst (N := 10) rfl ?_);refine bX_ 10 (cs := #[.slice none 0 0]) (t := 24) ?_;intro gb153 hg w9 hbox hb;have n0_ := Aside0.mk (nB_ BK152.out hb);have n1_ := Aside0.mk (sT_ HB.out hb);have n2_ := Aside0.mk (hbox);have n3_ := Aside0.mk (sZ_ hg HB.out);have n4_ := Aside0.mk (sZ_ hg HB.out);have n5_ := Aside0.mk (nL_ hg BK152.out);have n6_ := Aside0.mk (nG_ hg BK152.out);clear BK152;clear HB;have BK152 := n0_;have HB := n1_;have BK153 := n2_;have GW153 := n3_;have GE153 := n4_;have NB152_153 := n5_;have NB153_152 := n6_;clear n0_ n1_ n2_ n3_ n4_ n5_ n6_;clear hb hbox hg;have hnb10 := NB152_153.out;have hnc10 := NB153_152.out;have hcz11_0 : w9.cell? ⟨gb152,0,none⟩ = some (.slice A0_0 l0_0.length c0_0) := (blk_cell BK152.out 0).trans rfl;have hfz11_0 := blk_frozen BK152.out 0) | ((with_reducible refine gate_callee (f := 55) rfl ?_);refine gL_ (some 15) Try.func55 #[.agg #[.slice A0_0 l0_0.length c0_0]] ?_;(with_reducible refine (impl_copyMemory.calls k _ _ l0_0 t154 _ ?side1 ?side2 A6.out).mono ?_);(case side1 => exact cS_ (Kd.C_below HR0_0.out HB.out));(case side2 => exact HC0_0.out);rintro e w12 ⟨v155,rfl,ho0,hb⟩;refine ⟨_,rfl,?_⟩;have n0_ := Aside0.mk (Kd.S_lower ho0 (below_size (gB_ HB.out)));have n1_ := Aside0.mk (nB_ BK152.out hb);have n2_ := Aside0.mk (nB_ BK153.out hb);have n3_ := Aside0.mk (sT_ HB.out hb);clear BK152;clear BK153;clear HB;have HO156 := n0_;have BK152 := n1_;have BK153 := n2_;have HB := n3_;clear n0_ n1_ n2_ n3_;(try clear hb);(try clear hb2);(try clear hk);(try clear hi);(try clear ho0)) | ((with_reducible refine gate_dst (N := 12) rfl ?_);refine bX_ 12 (cs := #[.slice none 0 0]) (t := 24) ?_;intro gb157 hg w13 hbox hb;have n0_ := Aside0.mk (bS_ HO156.out hb);have n1_ := Aside0.mk (nB_ BK152.out hb);have n2_ := Aside0.mk (nB_ BK153.out hb);have n3_ := Aside0.mk (sT_ HB.out hb);have n4_ := Aside0.mk (hbox);have n5_ := Aside0.mk (sZ_ hg HB.out);have n6_ := Aside0.mk (sZ_ hg HB.out);have n7_ := Aside0.mk (nL_ hg BK152.out);have n8_ := Aside0.mk (nG_ hg BK152.out);have n9_ := Aside0.mk (nL_ hg BK153.out);have n10_ := Aside0.mk (nG_ hg BK153.out);clear HO156;clear BK152;clear BK153;clear HB;have HO156 := n0_;have BK152 := n1_;have BK153 := n2_;have HB := n3_;have BK157 := n4_;have GW157 := n5_;have GE157 := n6_;have NB152_157 := n7_;have NB157_152 := n8_;have NB153_157 := n9_;have NB157_153 := n10_;clear n0_ n1_ n2_ n3_ n4_ n5_ n6_ n7_ n8_ n9_ n10_;clear hb hbox hg;obtain ⟨Ao14,co14,eo14⟩ := Kd.S_slice HO156.out;subst eo14;have hnb15 := NB157_152.out;have hnc15 := NB152_157.out;have hnb16 := NB157_153.out;have hnc16 := NB153_157.out;have hcz17_0 : w13.cell? ⟨gb157,0,none⟩ = some (.slice none 0 0) := (blk_cell BK157.out 0).trans rfl;have hfz17_0 := blk_frozen BK157.out 0))
 (try simp only [Act.put,List.setIfInBounds_toArray,List.set_cons_zero,List.set_cons_succ])
 go_cut [34] (fun v34 wc => ∃ (kq : Nat) (x34_6 : Bool),v34 = .bool x34_6 ∧ Aside0 (impl_Store.j0 kq l1 a2 a3 a4 x34_6 t154 = some (r1,r2)) ∧ Aside0 (kq ≤ k) ∧ Aside0 (Kd.S (sslice 43 k43) 44 wc w.heap.size (fun _ => True) (.slice Ao14 t154.length co14) t154) ∧ Aside0 (wc.heap[gb152]? = some (.cells #[(.slice A0_0 l0_0.length c0_0)] 24 (0,0))) ∧ Aside0 (wc.heap[gb153]? = some (.cells #[(.slice none 0 0)] 24 (0,0))) ∧ Aside0 (wc.heap[gb157]? = some (.cells #[(.slice Ao14 t154.length co14)] 24 (0,0))) ∧ Aside0 (Below w.heap.size w wc))
 case first =>
  have H := HC7.out
  clear HC7
  replace H := Option.bind_eq_some_iff.mp H
  obtain ⟨t158,A180,H⟩ := H
  replace H : (if t158 = true then ((impl_ViewOk.f k l0_0 l1).bind fun t159 => (if t159 = true then ((impl_isCell.f a2).bind fun t160 => (if t160 = true then ((impl_Memory_hasRoom.f l0_0 a2).bind fun t161 => (impl_Store.j0 k l1 a2 a3 a4 (!t161) t154)) else (impl_Store.j0 k l1 a2 a3 a4 true t154))) else (impl_Store.j0 k l1 a2 a3 a4 true t154))) else (impl_Store.j0 k l1 a2 a3 a4 true t154)) = some (r1,r2) := H
  have A18 := Aside0.mk A180
  clear A180
  by_cases c19 : t158 = true
  ·subst c19
   have H1 : ((impl_ViewOk.f k l0_0 l1).bind fun t159 => (if t159 = true then ((impl_isCell.f a2).bind fun t160 => (if t160 = true then ((impl_Memory_hasRoom.f l0_0 a2).bind fun t161 => (impl_Store.j0 k l1 a2 a3 a4 (!t161) t154)) else (impl_Store.j0 k l1 a2 a3 a4 true t154))) else (impl_Store.j0 k l1 a2 a3 a4 true t154))) = some (r1,r2) := by rw [if_pos rfl] at H;exact H
   clear H
   have H := H1
   clear H1
   replace H := Option.bind_eq_some_iff.mp H
   obtain ⟨t159,A200,H⟩ := H
   replace H : (if t159 = true then ((impl_isCell.f a2).bind fun t160 => (if t160 = true then ((impl_Memory_hasRoom.f l0_0 a2).bind fun t161 => (impl_Store.j0 k l1 a2 a3 a4 (!t161) t154)) else (impl_Store.j0 k l1 a2 a3 a4 true t154))) else (impl_Store.j0 k l1 a2 a3 a4 true t154)) = some (r1,r2) := H
   have A20 := Aside0.mk A200
   clear A200
   by_cases c21 : t159 = true
   ·subst c21
    have H1 : ((impl_isCell.f a2).bind fun t160 => (if t160 = true then ((impl_Memory_hasRoom.f l0_0 a2).bind fun t161 => (impl_Store.j0 k l1 a2 a3 a4 (!t161) t154)) else (impl_Store.j0 k l1 a2 a3 a4 true t154))) = some (r1,r2) := by rw [if_pos rfl] at H;exact H
    clear H
    have H := H1
    clear H1
    replace H := Option.bind_eq_some_iff.mp H
    obtain ⟨t160,A220,H⟩ := H
    replace H : (if t160 = true then ((impl_Memory_hasRoom.f l0_0 a2).bind fun t161 => (impl_Store.j0 k l1 a2 a3 a4 (!t161) t154)) else (impl_Store.j0 k l1 a2 a3 a4 true t154)) = some (r1,r2) := H
    have A22 := Aside0.mk A220
    clear A220
    by_cases c23 : t160 = true
    ·subst c23
     have H1 : ((impl_Memory_hasRoom.f l0_0 a2).bind fun t161 => (impl_Store.j0 k l1 a2 a3 a4 (!t161) t154)) = some (r1,r2) := by rw [if_pos rfl] at H;exact H
     clear H
     have H := H1
     clear H1
     replace H := Option.bind_eq_some_iff.mp H
     obtain ⟨t161,A240,H⟩ := H
     replace H : (impl_Store.j0 k l1 a2 a3 a4 (!t161) t154) = some (r1,r2) := H
     have A24 := Aside0.mk A240
     clear A240
     have H' := Aside0.mk H
     clear H
     have hnb25 := NB152_153.out
     have hnc25 := NB153_152.out
     have hnb26 := NB152_157.out
     have hnc26 := NB157_152.out
     have hcz27_0 : w13.cell? ⟨gb152,0,none⟩ = some (.slice A0_0 l0_0.length c0_0) := (blk_cell BK152.out 0).trans rfl
     have hfz27_0 := blk_frozen BK152.out 0
     go_wp2_with (first | ((with_reducible refine gate_callee (f := 26) rfl ?_);refine gL_ (some 17) Try.func26 #[.agg #[.slice A0_0 l0_0.length c0_0]] ?_;(with_reducible refine (impl_MemoryOk.calls k _ _ l0_0 true _ ?side1 ?side2 A18.out).mono ?_);(case side1 => exact Kd.C_below HR0_0.out (gB_ HB.out));(case side2 => exact HC0_0.out);rintro e w28 ⟨rfl,hb⟩;refine ⟨_,rfl,?_⟩;have n0_ := Aside0.mk (Kd.S_below (by (with_reducible repeat (first | apply Kd.S_alloc | apply Kd.S_drewN | apply Kd.S_drew));exact (Kd.S_mono (Kd.S_far (p := ⟨gb157,0,none⟩) (Kd.S_types HO156.out BK157.out (by decide)) (fun _ hk => hk.2) (.slice Ao14 t154.length co14)) (fun _ h_ => h_.1))) hb);have n1_ := Aside0.mk (nBf_ BK152.out hb);have n2_ := Aside0.mk (nBf_ BK153.out hb);have n3_ := Aside0.mk (blk_below (g := gb157) (o := .cells #[.slice Ao14 t154.length co14] 24 (0,0)) (by (with_reducible repeat (first | refine blk_drewN ?_ _ | refine blk_drew ?_ | refine blk_alloc ?_ _));refine blk_put (cs := #[.slice none 0 0]) ?_ 0 _ rfl;exact rW_ BK157.out) hb);have n4_ := Aside0.mk (sT_ HB.out hb);clear HO156;clear BK152;clear BK153;clear BK157;clear HB;have HO156 := n0_;have BK152 := n1_;have BK153 := n2_;have BK157 := n3_;have HB := n4_;clear n0_ n1_ n2_ n3_ n4_;(try clear hb);(try clear hb2);(try clear hk);(try clear hi);have hcz29_0 : w28.cell? ⟨gb152,0,none⟩ = some (.slice A0_0 l0_0.length c0_0) := (blk_cell BK152.out 0).trans rfl;have hfz29_0 := blk_frozen BK152.out 0) | (go_at_call 28;(with_reducible refine (impl_ViewOk.calls k _ _ l0_0 _ _ l1 true _ ?side1 ?side2 ?side3 ?side4 A20.out).mono ?_);(case side1 => exact cS_ (Kd.C_below HR0_0.out HB.out));(case side2 => exact HC0_0.out);(case side3 => exact cS_ (Kd.C_below HR1.out HB.out));(case side4 => exact HC1.out);rintro e w30 ⟨rfl,hb⟩;have n0_ := Aside0.mk (bS_ HO156.out hb);have n1_ := Aside0.mk (nB_ BK152.out hb);have n2_ := Aside0.mk (nB_ BK153.out hb);have n3_ := Aside0.mk (nB_ BK157.out hb);have n4_ := Aside0.mk (sT_ HB.out hb);clear HO156;clear BK152;clear BK153;clear BK157;clear HB;have HO156 := n0_;have BK152 := n1_;have BK153 := n2_;have BK157 := n3_;have HB := n4_;clear n0_ n1_ n2_ n3_ n4_;(try clear hb);(try clear hb2);(try clear hk);(try clear hi)) | (go_at_call 56;(with_reducible refine (impl_isCell.calls a2 true _ A22.out).mono ?_);rintro e w' ⟨rfl,⟨nd,rfl⟩⟩) | (go_at_call 57;(with_reducible refine (impl_Memory_hasRoom.calls gb152 A0_0 c0_0 l0_0 a2 t161 _ ?sideK ?side1 ?side2 A24.out).mono ?_);(case sideK => exact (by (with_reducible repeat (first | refine blk_drewN ?_ _ | refine blk_drew ?_ | refine blk_alloc ?_ _));exact BK152.out));(case side1 => exact cS_ (Kd.C_below HR0_0.out (gB_ HB.out)));(case side2 => exact HC0_0.out);rintro e w31 ⟨rfl,hb⟩;have n0_ := Aside0.mk (bS_ HO156.out hb);have n1_ := Aside0.mk (nB_ BK152.out hb);have n2_ := Aside0.mk (nB_ BK153.out hb);have n3_ := Aside0.mk (nB_ BK157.out hb);have n4_ := Aside0.mk (sT_ HB.out hb);clear HO156;clear BK152;clear BK153;clear BK157;clear HB;have HO156 := n0_;have BK152 := n1_;have BK153 := n2_;have BK157 := n3_;have HB := n4_;clear n0_ n1_ n2_ n3_ n4_;(try clear hb);(try clear hb2);(try clear hk);(try clear hi)))
     go_meet
     case rel => exact ⟨_,(!t161),(by first | rfl | (simp;done) | (simp [*];done)),H',⟨by first | omega | exact Nat.le_refl _⟩,⟨by (with_reducible repeat (first | apply Kd.S_alloc | apply Kd.S_drewN | apply Kd.S_drew));exact HO156.out⟩,⟨rW_ BK152.out⟩,⟨rW_ BK153.out⟩,⟨rW_ BK157.out⟩,⟨gW_ HB.out⟩⟩
    ·replace c23 := Bool.eq_false_iff.mpr c23
     subst c23
     have H1 : (impl_Store.j0 k l1 a2 a3 a4 true t154) = some (r1,r2) := by rw [if_neg (show ¬ (false = true) by decide)] at H;exact H
     clear H
     have H := H1
     clear H1
     have H' := Aside0.mk H
     clear H
     have hnb32 := NB152_153.out
     have hnc32 := NB153_152.out
     have hnb33 := NB152_157.out
     have hnc33 := NB157_152.out
     have hcz34_0 : w13.cell? ⟨gb152,0,none⟩ = some (.slice A0_0 l0_0.length c0_0) := (blk_cell BK152.out 0).trans rfl
     have hfz34_0 := blk_frozen BK152.out 0
     go_wp2_with (first | ((with_reducible refine gate_callee (f := 26) rfl ?_);refine gL_ (some 17) Try.func26 #[.agg #[.slice A0_0 l0_0.length c0_0]] ?_;(with_reducible refine (impl_MemoryOk.calls k _ _ l0_0 true _ ?side1 ?side2 A18.out).mono ?_);(case side1 => exact Kd.C_below HR0_0.out (gB_ HB.out));(case side2 => exact HC0_0.out);rintro e w35 ⟨rfl,hb⟩;refine ⟨_,rfl,?_⟩;have n0_ := Aside0.mk (Kd.S_below (by (with_reducible repeat (first | apply Kd.S_alloc | apply Kd.S_drewN | apply Kd.S_drew));exact (Kd.S_mono (Kd.S_far (p := ⟨gb157,0,none⟩) (Kd.S_types HO156.out BK157.out (by decide)) (fun _ hk => hk.2) (.slice Ao14 t154.length co14)) (fun _ h_ => h_.1))) hb);have n1_ := Aside0.mk (nBf_ BK152.out hb);have n2_ := Aside0.mk (nBf_ BK153.out hb);have n3_ := Aside0.mk (blk_below (g := gb157) (o := .cells #[.slice Ao14 t154.length co14] 24 (0,0)) (by (with_reducible repeat (first | refine blk_drewN ?_ _ | refine blk_drew ?_ | refine blk_alloc ?_ _));refine blk_put (cs := #[.slice none 0 0]) ?_ 0 _ rfl;exact rW_ BK157.out) hb);have n4_ := Aside0.mk (sT_ HB.out hb);clear HO156;clear BK152;clear BK153;clear BK157;clear HB;have HO156 := n0_;have BK152 := n1_;have BK153 := n2_;have BK157 := n3_;have HB := n4_;clear n0_ n1_ n2_ n3_ n4_;(try clear hb);(try clear hb2);(try clear hk);(try clear hi);have hcz36_0 : w35.cell? ⟨gb152,0,none⟩ = some (.slice A0_0 l0_0.length c0_0) := (blk_cell BK152.out 0).trans rfl;have hfz36_0 := blk_frozen BK152.out 0) | (go_at_call 28;(with_reducible refine (impl_ViewOk.calls k _ _ l0_0 _ _ l1 true _ ?side1 ?side2 ?side3 ?side4 A20.out).mono ?_);(case side1 => exact cS_ (Kd.C_below HR0_0.out HB.out));(case side2 => exact HC0_0.out);(case side3 => exact cS_ (Kd.C_below HR1.out HB.out));(case side4 => exact HC1.out);rintro e w37 ⟨rfl,hb⟩;have n0_ := Aside0.mk (bS_ HO156.out hb);have n1_ := Aside0.mk (nB_ BK152.out hb);have n2_ := Aside0.mk (nB_ BK153.out hb);have n3_ := Aside0.mk (nB_ BK157.out hb);have n4_ := Aside0.mk (sT_ HB.out hb);clear HO156;clear BK152;clear BK153;clear BK157;clear HB;have HO156 := n0_;have BK152 := n1_;have BK153 := n2_;have BK157 := n3_;have HB := n4_;clear n0_ n1_ n2_ n3_ n4_;(try clear hb);(try clear hb2);(try clear hk);(try clear hi)) | (go_at_call 56;(with_reducible refine (impl_isCell.calls a2 false _ A22.out).mono ?_);rintro e w' ⟨rfl,⟨nd,rfl⟩⟩))
     go_meet
     case rel => exact ⟨_,(true),(by first | rfl | (simp;done) | (simp [*];done)),H',⟨by first | omega | exact Nat.le_refl _⟩,⟨by (with_reducible repeat (first | apply Kd.S_alloc | apply Kd.S_drewN | apply Kd.S_drew));exact HO156.out⟩,⟨rW_ BK152.out⟩,⟨rW_ BK153.out⟩,⟨rW_ BK157.out⟩,⟨gW_ HB.out⟩⟩
   ·replace c21 := Bool.eq_false_iff.mpr c21
    subst c21
    have H1 : (impl_Store.j0 k l1 a2 a3 a4 true t154) = some (r1,r2) := by rw [if_neg (show ¬ (false = true) by decide)] at H;exact H
    clear H
    have H := H1
    clear H1
    have H' := Aside0.mk H
    clear H
    have hnb38 := NB152_153.out
    have hnc38 := NB153_152.out
    have hnb39 := NB152_157.out
    have hnc39 := NB157_152.out
    have hcz40_0 : w13.cell? ⟨gb152,0,none⟩ = some (.slice A0_0 l0_0.length c0_0) := (blk_cell BK152.out 0).trans rfl
    have hfz40_0 := blk_frozen BK152.out 0
    go_wp2_with (first | ((with_reducible refine gate_callee (f := 26) rfl ?_);refine gL_ (some 17) Try.func26 #[.agg #[.slice A0_0 l0_0.length c0_0]] ?_;(with_reducible refine (impl_MemoryOk.calls k _ _ l0_0 true _ ?side1 ?side2 A18.out).mono ?_);(case side1 => exact Kd.C_below HR0_0.out (gB_ HB.out));(case side2 => exact HC0_0.out);rintro e w41 ⟨rfl,hb⟩;refine ⟨_,rfl,?_⟩;have n0_ := Aside0.mk (Kd.S_below (by (with_reducible repeat (first | apply Kd.S_alloc | apply Kd.S_drewN | apply Kd.S_drew));exact (Kd.S_mono (Kd.S_far (p := ⟨gb157,0,none⟩) (Kd.S_types HO156.out BK157.out (by decide)) (fun _ hk => hk.2) (.slice Ao14 t154.length co14)) (fun _ h_ => h_.1))) hb);have n1_ := Aside0.mk (nBf_ BK152.out hb);have n2_ := Aside0.mk (nBf_ BK153.out hb);have n3_ := Aside0.mk (blk_below (g := gb157) (o := .cells #[.slice Ao14 t154.length co14] 24 (0,0)) (by (with_reducible repeat (first | refine blk_drewN ?_ _ | refine blk_drew ?_ | refine blk_alloc ?_ _));refine blk_put (cs := #[.slice none 0 0]) ?_ 0 _ rfl;exact rW_ BK157.out) hb);have n4_ := Aside0.mk (sT_ HB.out hb);clear HO156;clear BK152;clear BK153;clear BK157;clear HB;have HO156 := n0_;have BK152 := n1_;have BK153 := n2_;have BK157 := n3_;have HB := n4_;clear n0_ n1_ n2_ n3_ n4_;(try clear hb);(try clear hb2);(try clear hk);(try clear hi);have hcz42_0 : w41.cell? ⟨gb152,0,none⟩ = some (.slice A0_0 l0_0.length c0_0) := (blk_cell BK152.out 0).trans rfl;have hfz42_0 := blk_frozen BK152.out 0) | (go_at_call 28;(with_reducible refine (impl_ViewOk.calls k _ _ l0_0 _ _ l1 false _ ?side1 ?side2 ?side3 ?side4 A20.out).mono ?_);(case side1 => exact cS_ (Kd.C_below HR0_0.out HB.out));(case side2 => exact HC0_0.out);(case side3 => exact cS_ (Kd.C_below HR1.out HB.out));(case side4 => exact HC1.out);rintro e w43 ⟨rfl,hb⟩;have n0_ := Aside0.mk (bS_ HO156.out hb);have n1_ := Aside0.mk (nB_ BK152.out hb);have n2_ := Aside0.mk (nB_ BK153.out hb);have n3_ := Aside0.mk (nB_ BK157.out hb);have n4_ := Aside0.mk (sT_ HB.out hb);clear HO156;clear BK152;clear BK153;clear BK157;clear HB;have HO156 := n0_;have BK152 := n1_;have BK153 := n2_;have BK157 := n3_;have HB := n4_;clear n0_ n1_ n2_ n3_ n4_;(try clear hb);(try clear hb2);(try clear hk);(try clear hi)))
    go_meet
    case rel => exact ⟨_,(true),(by first | rfl | (simp;done) | (simp [*];done)),H',⟨by first | omega | exact Nat.le_refl _⟩,⟨by (with_reducible repeat (first | apply Kd.S_alloc | apply Kd.S_drewN | apply Kd.S_drew));exact HO156.out⟩,⟨rW_ BK152.out⟩,⟨rW_ BK153.out⟩,⟨rW_ BK157.out⟩,⟨gW_ HB.out⟩⟩
  ·replace c19 := Bool.eq_false_iff.mpr c19
   subst c19
   have H1 : (impl_Store.j0 k l1 a2 a3 a4 true t154) = some (r1,r2) := by rw [if_neg (show ¬ (false = true) by decide)] at H;exact H
   clear H
   have H := H1
   clear H1
   have H' := Aside0.mk H
   clear H
   have hnb44 := NB152_153.out
   have hnc44 := NB153_152.out
   have hnb45 := NB152_157.out
   have hnc45 := NB157_152.out
   have hcz46_0 : w13.cell? ⟨gb152,0,none⟩ = some (.slice A0_0 l0_0.length c0_0) := (blk_cell BK152.out 0).trans rfl
   have hfz46_0 := blk_frozen BK152.out 0
   go_wp2_with (first | ((with_reducible refine gate_callee (f := 26) rfl ?_);refine gL_ (some 17) Try.func26 #[.agg #[.slice A0_0 l0_0.length c0_0]] ?_;(with_reducible refine (impl_MemoryOk.calls k _ _ l0_0 false _ ?side1 ?side2 A18.out).mono ?_);(case side1 => exact Kd.C_below HR0_0.out (gB_ HB.out));(case side2 => exact HC0_0.out);rintro e w47 ⟨rfl,hb⟩;refine ⟨_,rfl,?_⟩;have n0_ := Aside0.mk (Kd.S_below (by (with_reducible repeat (first | apply Kd.S_alloc | apply Kd.S_drewN | apply Kd.S_drew));exact (Kd.S_mono (Kd.S_far (p := ⟨gb157,0,none⟩) (Kd.S_types HO156.out BK157.out (by decide)) (fun _ hk => hk.2) (.slice Ao14 t154.length co14)) (fun _ h_ => h_.1))) hb);have n1_ := Aside0.mk (nBf_ BK152.out hb);have n2_ := Aside0.mk (nBf_ BK153.out hb);have n3_ := Aside0.mk (blk_below (g := gb157) (o := .cells #[.slice Ao14 t154.length co14] 24 (0,0)) (by (with_reducible repeat (first | refine blk_drewN ?_ _ | refine blk_drew ?_ | refine blk_alloc ?_ _));refine blk_put (cs := #[.slice none 0 0]) ?_ 0 _ rfl;exact rW_ BK157.out) hb);have n4_ := Aside0.mk (sT_ HB.out hb);clear HO156;clear BK152;clear BK153;clear BK157;clear HB;have HO156 := n0_;have BK152 := n1_;have BK153 := n2_;have BK157 := n3_;have HB := n4_;clear n0_ n1_ n2_ n3_ n4_;(try clear hb);(try clear hb2);(try clear hk);(try clear hi)))
   go_meet
   case rel => exact ⟨_,(true),(by first | rfl | (simp;done) | (simp [*];done)),H',⟨by first | omega | exact Nat.le_refl _⟩,⟨by (with_reducible repeat (first | apply Kd.S_alloc | apply Kd.S_drewN | apply Kd.S_drew));exact HO156.out⟩,⟨rW_ BK152.out⟩,⟨rW_ BK153.out⟩,⟨rW_ BK157.out⟩,⟨gW_ HB.out⟩⟩
 case rest =>
  clear HC7
  try clear c1
  try clear c2
  try clear p2
  try clear c3
  try clear c4
  try clear c5
  try clear c10
  try clear c15
  try clear c16
  try clear c19
  try clear c20
  try clear c21
  try clear c23
  try clear c25
  try clear c26
  try clear c32
  try clear c33
  try clear c38
  try clear c39
  try clear c44
  try clear c45
  try clear hcz11_0 hfz11_0
  try clear hcz17_0 hfz17_0
  try clear hcz27_0 hfz27_0
  try clear hcz29_0 hfz29_0
  try clear hcz34_0 hfz34_0
  try clear hcz36_0 hfz36_0
  try clear hcz40_0 hfz40_0
  try clear hcz42_0 hfz42_0
  try clear hcz46_0 hfz46_0
  obtain ⟨kq,x34_6,rfl,HA,HJ6,HO_158000,BK152,BK153,BK157,HB⟩ := hcut
  cases kq with
  | zero => exact absurd HA.out (by simp [impl_Store.j0])
  | succ kj6 =>
   have H := HA.out
   clear HA
   simp only [impl_Store.j0] at H
   by_cases c48 : x34_6 = true
   ·subst c48
    have H1 : ((impl_copyInts.f l1).bind fun t162 => (some (t154,t162))) = some (r1,r2) := by rw [if_pos rfl] at H;exact H
    clear H
    have H := H1
    clear H1
    replace H := Option.bind_eq_some_iff.mp H
    obtain ⟨t162,A490,H⟩ := H
    replace H : (some (t154,t162)) = some (r1,r2) := H
    have A49 := Aside0.mk A490
    clear A490
    simp only [Option.some.injEq,Prod.mk.injEq] at H
    obtain ⟨rfl,rfl⟩ := H
    try go_wp2
    have n0_ := Aside0.mk (Kd.S_drew HO_158000.out)
    have n1_ := Aside0.mk (blk_drew BK152.out)
    have n2_ := Aside0.mk (blk_drew BK153.out)
    have n3_ := Aside0.mk (blk_drew BK157.out)
    have n4_ := Aside0.mk (below_drew1 HB.out)
    clear HO_158000
    clear BK152
    clear BK153
    clear BK157
    clear HB
    have HO_158000 := n0_
    have BK152 := n1_
    have BK153 := n2_
    have BK157 := n3_
    have HB := n4_
    clear n0_ n1_ n2_ n3_ n4_
    refine start_ (n := 5) (S := fun w' => w'.cell? ⟨gb157,0,none⟩ = some (.slice Ao14 t154.length co14)) (ds := []) (mk_ 5 0) (by kernel_rfl) rfl rfl ((blk_cell BK157.out 0).trans rfl) (fun hHeld => ?_)
    generalize wc.drew = w50 at HO_158000 BK152 BK153 BK157 HB hHeld ⊢
    refine pU_ 1 (some 36) (mk_ 5 2) ?_
    refine take_ (i := 0) (N := some 35) (v := ?_) (a' := ?_) #[true,true,false,false,false] rfl rfl (by kernel_rfl) (fun _ _ _ h => h) (Or.inl ⟨by rfl,?_⟩) hHeld ?_ ?_
    rotate_left
    ·intro w' s0
     go_simp
     with_reducible rfl
    rotate_left
    ·simp only [Act.put,List.setIfInBounds_toArray,List.set_cons_zero,List.set_cons_succ,i64_w,i32_w]
     rfl
    refine oN_ 2 (some 37) (mk_ 5 7) (fun K hK => ?_)
    refine gO_ Try.func58 #[.slice A1 l1.length c1] ?_
    with_reducible refine (impl_copyInts.calls _ _ l1 t162 _ ?side1 ?side2 A49.out).mono ?_
    (case side1 => exact cS_ (Kd.C_below HR1.out HB.out))
    (case side2 => exact HC1.out)
    rintro e w51 ⟨v163,rfl,ho0,hb⟩
    refine ⟨_,rfl,?_⟩
    have n0_ := Aside0.mk (Kd.S_elder' (by (with_reducible repeat (first | apply Kd.S_alloc | apply Kd.S_drewN | apply Kd.S_drew));exact HO_158000.out) (Kd.R_base ho0) hb)
    have n1_ := Aside0.mk (Kd.R_lower ho0 (below_size (gB_ HB.out)))
    have n2_ := Aside0.mk (nB_ BK152.out hb)
    have n3_ := Aside0.mk (nB_ BK153.out hb)
    have n4_ := Aside0.mk (nB_ BK157.out hb)
    have n5_ := Aside0.mk (sT_ HB.out hb)
    clear HO_158000
    clear BK152
    clear BK153
    clear BK157
    clear HB
    have HO_158000 := n0_
    have HO164 := n1_
    have BK152 := n2_
    have BK153 := n3_
    have BK157 := n4_
    have HB := n5_
    clear n0_ n1_ n2_ n3_ n4_ n5_
    (try clear hb)
    (try clear hb2)
    (try clear hk)
    (try clear hi)
    (try clear ho0)
    refine hK.out _ _ ((blk_cell BK157.out 0).trans rfl) (fun hHeld => ?_)
    clear hK K
    refine norm_ (a' := ?_) ?_ ?_
    rotate_left
    ·show Act.put _ (some 37) _ = _
     simp only [Act.put,List.setIfInBounds_toArray,List.set_cons_zero,List.set_cons_succ,i64_w,i32_w]
     rfl
    refine oN_ 3 (none) (mk_ 5 15) (fun K hK => ?_)
    have hs52 : w51.cell? ⟨gb153,0,none⟩ = some (.slice none 0 0) := (blk_cell BK153.out 0).trans rfl
    have hfs52 := blk_frozen BK153.out 0
    have hns52_0 := NB152_153.out
    have hns52_2 := NB157_153.out
    have hms52_0 := NB153_152.out
    have hms52_2 := NB153_157.out
    refine skip_ (w1 := ?_) (by rfl) rfl ?_ ?_
    rotate_left
    ·go_simp
     rfl
    refine hK.out _ _ ((cf_ NB157_153.out hHeld)) (fun hHeld => ?_)
    clear hK K
    refine pU_ 4 (some 11) (mk_ 5 31) ?_
    refine done_ (by kernel_rfl) ?_
    try go_wp2
    refine bodyPost_ret (results_ct rfl _ _ gb153 24 #[.slice Ao14 t154.length co14] (0,0) _ rfl (by (with_reducible repeat (first | refine blk_drewN ?_ _ | refine blk_drew ?_ | refine blk_alloc ?_ _));refine blk_put (cs := #[.slice none 0 0]) ?_ 0 _ rfl;exact rW_ BK153.out) Try.underlying24 rfl (by kernel_rfl)) rfl ?_
    exact ⟨_,_,fR_,by (with_reducible repeat (first | apply Kd.S_alloc | apply Kd.S_drewN | apply Kd.S_drew));exact Kd.S_mono (Kd.S_far (p := ⟨gb153,0,none⟩) (Kd.S_types HO_158000.out BK153.out (by decide)) (fun _ hk => hk.2) (.slice Ao14 t154.length co14)) (fun _ hk => hk.1.2),by (with_reducible repeat (first | apply Kd.R_alloc | apply Kd.R_drewN | apply Kd.R_drew));exact Kd.R_mono (Kd.R_far (p := ⟨gb153,0,none⟩) (Kd.R_types HO164.out BK153.out (by decide)) (fun _ hk => hk.2) (.slice Ao14 t154.length co14)) (fun _ hk => trivial),gB_ HB.out⟩
   ·replace c48 := Bool.eq_false_iff.mpr c48
    subst c48
    have H1 : ((impl_Memory_store.f t154 l1 a2 a3 a4).bind fun bt165 => (some (bt165.1,bt165.2))) = some (r1,r2) := by rw [if_neg (show ¬ (false = true) by decide)] at H;exact H
    clear H
    have H := H1
    clear H1
    replace H := Option.bind_eq_some_iff.mp H
    obtain ⟨⟨t165m,t165⟩,A530,H⟩ := H
    replace H : (some (t165m,t165)) = some (r1,r2) := H
    have A53 := Aside0.mk A530
    clear A530
    simp only [Option.some.injEq,Prod.mk.injEq] at H
    obtain ⟨rfl,rfl⟩ := H
    have hnb54 := NB157_152.out
    have hnc54 := NB152_157.out
    have hnb55 := NB157_153.out
    have hnc55 := NB153_157.out
    have hcz56_0 : wc.cell? ⟨gb157,0,none⟩ = some (.slice Ao14 t154.length co14) := (blk_cell BK157.out 0).trans rfl
    have hfz56_0 := blk_frozen BK157.out 0
    go_wp2_with (first | ((with_reducible refine gate_callee (f := 59) rfl ?_);refine gL_ (some 42) Try.func59 #[.pointer (some ⟨gb157,0,none⟩),.slice A1 l1.length c1,.int .i64 a2,.int .i64 a3,.bool a4] ?_;(with_reducible refine (impl_Memory_store.calls (fun k_ => ((((w.heap.size ≤ k_) ∧ k_ ≠ gb152) ∧ k_ ≠ gb153) ∧ k_ ≠ gb157)) gb157 Ao14 co14 t154 _ _ l1 a2 a3 a4 t165m t165 w.heap.size _ ?sideK ?side1 ?sideB ?side3 ?side4 A53.out).mono ?_);(case sideK => exact BK157.out);(case side1 => have h9_ := Kd.S_types (Kd.S_types (Kd.S_types (Kd.S_bound HO_158000.out) BK152.out (by decide)) BK153.out (by decide)) BK157.out (by decide);exact Kd.S_mono h9_ (fun _ hk => ⟨⟨⟨hk.1.1.1.2.1,hk.1.1.2⟩,hk.1.2⟩,hk.2⟩));(case sideB => exact (below_size (gB_ HB.out)));(case side3 => exact cS_ (Kd.C_below HR1.out HB.out));(case side4 => exact HC1.out);rintro e w57 ⟨v166,rfl,hbk_,ho9_,ho0,hb,hk_⟩;refine ⟨_,rfl,?_⟩;have n0_ := Aside0.mk (Kd.S_mono (ok' := fun k_ => (w.heap.size ≤ k_) ∧ some k_ ≠ (v166 : Value).ownBlock) ho9_ (fun k hk => ⟨hk.1.elim (fun h => h.1.1.1) (fun h => Nat.le_trans (below_size (gB_ HB.out)) h),hk.2⟩));have n1_ := Aside0.mk (Kd.R_lower ho0 (below_size (gB_ HB.out)));have n2_ := Aside0.mk (blk_kept (g := gb152) (o := .cells #[.slice A0_0 l0_0.length c0_0] 24 (0,0)) (by (with_reducible repeat (first | refine blk_drewN ?_ _ | refine blk_drew ?_ | refine blk_alloc ?_ _));exact BK152.out) hk_ (fun h_ => absurd rfl (by first | exact h_.2 | exact h_.1.2 | exact h_.1.1.2 | exact h_.1.1.1.2)));have n3_ := Aside0.mk (blk_kept (g := gb153) (o := .cells #[.slice none 0 0] 24 (0,0)) (by (with_reducible repeat (first | refine blk_drewN ?_ _ | refine blk_drew ?_ | refine blk_alloc ?_ _));exact BK153.out) hk_ (fun h_ => absurd rfl (by first | exact h_.2 | exact h_.1.2 | exact h_.1.1.2 | exact h_.1.1.1.2)));have n4_ := Aside0.mk hbk_;have n5_ := Aside0.mk (Below.trans (gB_ HB.out) hb);clear HO_158000;clear BK152;clear BK153;clear BK157;clear HB;have HO_158000 := n0_;have HO167 := n1_;have BK152 := n2_;have BK153 := n3_;have BK157 := n4_;have HB := n5_;clear n0_ n1_ n2_ n3_ n4_ n5_;(try clear hb);(try clear hk_ hbk_ ho9_);(try clear hb2);(try clear hk);(try clear hi);(try clear ho0);have hcz58_0 : w57.cell? ⟨gb157,0,none⟩ = some (.slice Ao14 t154.length co14) := (blk_cell BK157.out 0).trans rfl;have hfz58_0 := blk_frozen BK157.out 0;have hnb59 := NB153_152.out;have hnc59 := NB152_153.out;have hcz60_0 : w57.cell? ⟨gb153,0,none⟩ = some (.slice none 0 0) := (blk_cell BK153.out 0).trans rfl;have hfz60_0 := blk_frozen BK153.out 0))
    refine bodyPost_ret (results_ct rfl _ _ gb153 24 #[.slice Ao14 t154.length co14] (0,0) _ rfl (by (with_reducible repeat (first | refine blk_drewN ?_ _ | refine blk_drew ?_ | refine blk_alloc ?_ _));refine blk_put (cs := #[.slice none 0 0]) ?_ 0 _ rfl;exact rW_ BK153.out) Try.underlying24 rfl (by kernel_rfl)) rfl ?_
    exact ⟨_,_,fR_,by (with_reducible repeat (first | apply Kd.S_alloc | apply Kd.S_drewN | apply Kd.S_drew));exact Kd.S_mono (Kd.S_far (p := ⟨gb153,0,none⟩) (Kd.S_types HO_158000.out BK153.out (by decide)) (fun _ hk => hk.2) (.slice Ao14 t154.length co14)) (fun _ hk => hk.1.2),by (with_reducible repeat (first | apply Kd.R_alloc | apply Kd.R_drewN | apply Kd.R_drew));exact Kd.R_mono (Kd.R_far (p := ⟨gb153,0,none⟩) (Kd.R_types HO167.out BK153.out (by decide)) (fun _ hk => hk.2) (.slice Ao14 t154.length co14)) (fun _ hk => trivial),gB_ HB.out⟩
theorem impl_Store.calls (k : Nat) (A0_0 : Option Addr) (c0_0 : Nat) (l0_0 : List (List (S43))) (A1 : Option Addr) (c1 : Nat) (l1 : List Int) (a2 : Int) (a3 : Int) (a4 : Bool) (r1 : List (List (S43))) (r2 : List Int) (w : World) (hr0_0 : Kd.C (Kd.slice 43 k43) w A0_0 l0_0.length l0_0) (hc0_0 : l0_0.length ≤ c0_0) (hr1 : Kd.C (Kd.int .i64) w A1 l1.length l1) (hc1 : l1.length ≤ c1) (h : impl_Store.f k l0_0 l1 a2 a3 a4 = some (r1,r2)) :
  Calls Try.prog 20 #[.agg #[.slice A0_0 l0_0.length c0_0],.slice A1 l1.length c1,.int .i64 a2,.int .i64 a3,.bool a4] w fun e w' => ∃ v0_ v1_ : Value,e = .returned (.tuple #[.agg #[v0_],v1_]) ∧ Kd.R (Kd.slice 43 k43) 44 w' w.heap.size (fun k_ => some k_ ≠ (v1_ : Value).ownBlock) v0_ r1 ∧ Kd.R (Kd.int .i64) 3 w' w.heap.size (fun _ => True) v1_ r2 ∧ Below w.heap.size w w' :=
 (impl_Store.callsS k A0_0 c0_0 l0_0 A1 c1 l1 a2 a3 a4 r1 r2 w hr0_0 hc0_0 hr1 hc1 h).mono fun e w' ⟨v0_,v1_,h0_,h1_,h2_,h3_⟩ => ⟨v0_,v1_,h0_,S_Rs h1_,h2_,h3_⟩
def impl_Join.l0 : Nat → List Int → List Int → List Int → Int → Option (List Int)
  | 0,_,_,_,_ => none
  | k + 1,x0,x1,x5,x6 => if x6 < (x0.length : Int) then (if x6 < (x1.length : Int) then (if 0 ≤ x6 then (if x5.length < 17592186044416 then (impl_Join.l0 k x0 x1 (x5 ++ [mx (rd x0 x6) (rd x1 x6)]) (wrap64 (x6 + 1))) else (none)) else (none)) else (some x5)) else (some x5)
def impl_Join.f (k : Nat) (l0 : List Int) (l1 : List Int) : Option (List Int) := impl_Join.l0 k l0 l1 (([] : List Int)) 0
def impl_Join.T5 : Bool × List (List Nat × List Nat) := (true,[([],[]),([],[]),([],[]),([1,2],[1,2]),([3],[3]),([],[]),([],[]),([5,6],[5,6]),([7],[7]),([4,8],[4,8]),([9],[9]),([0,10],[0,10]),([11,11,0,1,2,3,4,5,6,7,8,9,10,11],[0,11])])
def impl_Join.B5 : List Nat := [0,0,0,6,14,0,0,96,224,510,1022,2047,4095]
theorem impl_Join.tab5 : rtab .any (opsOf Try.f94 5) = impl_Join.T5 := by kernel_rfl
theorem impl_Join.bits5 : waitsOk impl_Join.T5.2 impl_Join.B5 = true := by kernel_rfl
set_option maxHeartbeats 8000000 in
set_option maxRecDepth 100000 in
theorem impl_Join.calls (k : Nat) (A0 : Option Addr) (c0 : Nat) (l0 : List Int) (A1 : Option Addr) (c1 : Nat) (l1 : List Int) (r : List Int) (w : World) (hr0 : Kd.C (Kd.int .i64) w A0 l0.length l0) (hc0 : l0.length ≤ c0) (hr1 : Kd.C (Kd.int .i64) w A1 l1.length l1) (hc1 : l1.length ≤ c1) (h : impl_Join.f k l0 l1 = some r) :
  Calls Try.prog 94 #[.slice A0 l0.length c0,.slice A1 l1.length c1] w fun e w' => ∃ v0_ : Value,e = .returned (v0_) ∧ Kd.R (Kd.int .i64) 3 w' w.heap.size (fun _ => True) v0_ r ∧ Below w.heap.size w w' := by
 have HR0 := aM_ hr0
 have HC0 := aM_ hc0
 clear hr0 hc0
 have HR1 := aM_ hr1
 have HC1 := aM_ hc1
 clear hr1 hc1
 have HB := aM_ (Below.refl w.heap.size w)
 have H : (impl_Join.l0 k l0 l1 (([] : List Int)) 0) = some r := h
 clear h
 obtain ⟨y168,hy168⟩ : ∃ y_ : List Int,y_ = (([] : List Int)) := ⟨_,rfl⟩
 replace H : (impl_Join.l0 k l0 l1 y168 0) = some r := by first | (rw [hy168];with_reducible exact H) | (have H2_ := (Option.bind_some _ _).symm.trans H;rw [hy168];with_reducible exact H2_) | (have H2_ := (Option.bind_some _ _).symm.trans H;with_reducible exact H2_) | with_reducible exact H | (rw [hy168];exact H) | exact H
 have Ny168 := aM_ hy168
 clear hy168
 have H' := aM_ H
 clear H
 go_enter Try.func94,Try.ntmps94
 go_wp2_with (first | ((with_reducible refine gate_dst (N := 7) rfl ?_);(try (refine gate_guard (by rfl) ?_;dsimp only));refine Kd.R_lit (Kd.int .i64) _ 3 ?hg (N := 7) ?hd (xs := ([] : List Int)) (inner := []) (ok := fun _ => True) (okp := fun _ => True) ?hr ?hp (fun _ hk => hk) trivial (Below.refl _ _) (Nat.le_refl _) (by simp) ?_;(case hd => rfl);(case hg => rfl);(case hr => first | (go_simp;done) | (go_simp;rfl));(case hp => exact (Reps.none _ _));intro v169 w3 ho4 hb hg_ hnew_;clear hg_ hnew_;(first | rw [← Ny168.out] at ho4 | (simp only [Int.reduceToNat] at ho4;rw [← Ny168.out] at ho4));have n0 := aM_ (Kd.R_lower ho4 (below_size (gB_ HB.out)));have n1 := aM_ (sT_ HB.out hb);clear HB;have HO170 := n0;have HB := n1;clear n0 n1;clear hb ho4))
 go_loopg [5,6] k (fun kq v5 v6 w' => ∃ (x5_1 : List Int) (x6_1 : Int),v6 = .int .i64 x6_1 ∧ Aside0 (impl_Join.l0 kq l0 l1 x5_1 x6_1 = some r) ∧ Aside0 (kq ≤ k) ∧ Aside0 (Kd.R (Kd.int .i64) 3 w' w.heap.size (fun _ => True) v5 x5_1) ∧ Aside0 (Below w.heap.size w w'))
 case atStart => exact ⟨(y168),(0),(by first | rfl | (simp;done) | (simp [*];done)),H',⟨Nat.le_refl _⟩,⟨by (with_reducible repeat (first | apply rA_ | apply rN_ | apply rD_));exact HO170.out⟩,⟨gW_ HB.out⟩⟩
 case round =>
  clear H'
  try clear c1
  try clear p2
  obtain ⟨x5_1,x6_1,rfl,HA,HK1,HO_5,HB⟩ := hrel
  cases gk with
  | zero => exact absurd HA.out (by simp [impl_Join.l0])
  | succ k1 =>
   have H := HA.out
   clear HA
   simp only [impl_Join.l0] at H
   by_cases c5 : x6_1 < (l0.length : Int)
   ·rw [if_pos c5] at H
    have c5b0 : decide (x6_1 < (l0.length : Int)) = true := decide_eq_true c5
    clear c5
    by_cases c6 : x6_1 < (l1.length : Int)
    ·rw [if_pos c6] at H
     have c6b0 : decide (x6_1 < (l1.length : Int)) = true := decide_eq_true c6
     clear c6
     by_cases c7 : 0 ≤ x6_1
     ·rw [if_pos c7] at H
      have c7b0 : decide (0 ≤ x6_1) = true := decide_eq_true c7
      clear c7
      obtain ⟨ji8,hji8⟩ : ∃ j_ : Int,(mx (rd l0 x6_1) (rd l1 x6_1)) = j_ := ⟨_,rfl⟩
      replace H : (if x5_1.length < 17592186044416 then (impl_Join.l0 k1 l0 l1 (x5_1 ++ [ji8]) (wrap64 (x6_1 + 1))) else (none)) = some r := by first | (rw [hji8] at H;exact H) | (simp only [hji8] at H ⊢;exact H)
      have hji8_ : (if (rd l0 x6_1) < (rd l1 x6_1) then (rd l1 x6_1) else (rd l0 x6_1)) = ji8 := hji8
      by_cases c9 : x5_1.length < 17592186044416
      ·rw [if_pos c9] at H
       have LMc9 := aM_ c9
       clear c9
       obtain ⟨y173,hy173⟩ : ∃ y_ : List Int,y_ = (x5_1 ++ [ji8]) := ⟨_,rfl⟩
       replace H : (impl_Join.l0 k1 l0 l1 y173 (wrap64 (x6_1 + 1))) = some r := by first | (rw [hy173];with_reducible exact H) | (have H2_ := (Option.bind_some _ _).symm.trans H;rw [hy173];with_reducible exact H2_) | (have H2_ := (Option.bind_some _ _).symm.trans H;with_reducible exact H2_) | with_reducible exact H | (rw [hy173];exact H) | exact H
       have Ny173 := aM_ hy173
       clear hy173
       have H' := aM_ H
       clear H
       try go_wp2
       have n0 := aM_ (Kd.R_drew HO_5.out)
       have n1 := aM_ (below_drew1 HB.out)
       clear HO_5
       clear HB
       have HO_5 := n0
       have HB := n1
       clear n0 n1
       have p171 : 0 ≤ (x6_1 : Int) := of_decide_eq_true (by first | (with_reducible assumption) | assumption)
       have q171 : x6_1 < (l0.length : Int) := of_decide_eq_true (by first | (with_reducible assumption) | assumption)
       obtain ⟨ad171,e171,hx171_0⟩ := Kd.at_int HR0.out x6_1 p171 q171
       have hw171_0 := hx171_0
       cases e171
       replace hx171_0 := cB_ HB.out hx171_0
       replace p171 := eq_true p171
       replace q171 := eq_true q171
       have p172 : 0 ≤ (x6_1 : Int) := of_decide_eq_true (by first | (with_reducible assumption) | assumption)
       have q172 : x6_1 < (l1.length : Int) := of_decide_eq_true (by first | (with_reducible assumption) | assumption)
       obtain ⟨ad172,e172,hx172_0⟩ := Kd.at_int HR1.out x6_1 p172 q172
       have hw172_0 := hx172_0
       cases e172
       replace hx172_0 := cB_ HB.out hx172_0
       replace p172 := eq_true p172
       replace q172 := eq_true q172
       refine start_ (n := 13) (S := fun w' => w'.cell? (ad171.add (x6_1).toNat) = some (.int .i64 (rd l0 x6_1)) ∧ w'.cell? (ad172.add (x6_1).toNat) = some (.int .i64 (rd l1 x6_1))) (ds := []) (mk_ 13 0) (by kernel_rfl) rfl rfl ⟨(cB_ HB.out hw171_0 :),(cB_ HB.out hw172_0 :)⟩ (fun hHeld => ?_);refine with_tabW impl_Join.tab5 impl_Join.bits5 (fun HT_ HW_ => ?_)
       generalize wr.drew = w10 at HO_5 HB hx171_0 hx172_0 hHeld ⊢
       refine pU_ 0 (some 20) (mk_ 13 1) ?_
       refine pU_ 1 (some 21) (mk_ 13 3) ?_
       refine pU_ 2 (some 22) (mk_ 13 7) ?_
       refine pU_ 3 (some 23) (mk_ 13 15) ?_
       refine pU_ 5 (some 25) (mk_ 13 47) ?_
       refine pU_ 6 (some 26) (mk_ 13 111) ?_
       refine pU_ 7 (some 27) (mk_ 13 239) ?_
       refine tK2_ 4 (some 24) (mk_ 13 255) ?_
       refine tK2_ 8 (some 28) (mk_ 13 511) ?_
       refine pU_ 9 (some 29) (mk_ 13 1023) ?_
       refine oN_ 10 (some 30) (mk_ 13 2047) (fun K hK => ?_)
       refine value_ (w1 := ?_) (v := ?_) (by rfl) rfl ?_ ?_
       rotate_left 2
       ·go_simp
        constructor
        ·rfl
        ·rfl
       refine hK.out _ _ ⟨(World.cell?_alloc_lt _ _ _ (World.block_lt_of_cell? _ _ ((cB_ HB.out hw171_0 :)))).trans ((cB_ HB.out hw171_0 :)),(World.cell?_alloc_lt _ _ _ (World.block_lt_of_cell? _ _ ((cB_ HB.out hw172_0 :)))).trans ((cB_ HB.out hw172_0 :))⟩ (fun hHeld => ?_)
       clear hK K
       refine norm_ (a' := ?_) ?_ ?_
       rotate_left
       ·show Act.put _ (some 30) _ = _
        simp only [pt_,pn_,sI_,s0_,s1_,i64_w,i32_w]
        rfl
       refine oN_ 11 (some 31) (mk_ 13 4095) (fun K hK => ?_)
       refine Kd.R_append_step (Kd.int .i64) (w0 := w) w.heap.size (by rfl) (.tmp 20) (.tmp 30) 31 3 (.int .i64 0) 8 rfl Try.underlying31 info3 rfl (by decide) (by omega) u5 x5_1 ji8 [.int .i64 ji8] (fun _ => True) (fun _ => False) rfl rfl ?aP (fun _ hk => hk.elim) ?aF ?aO ?aB ?aS ?aL ?_
       (case aP => exact rfl)
       (case aB => exact (gB_ HB.out))
       (case aF => exact (fun _ _ => trivial))
       (case aO => exact (by (with_reducible repeat (first | apply rA_ | apply rN_ | apply rD_));exact HO_5.out))
       (case aS => exact (below_size (gB_ HB.out)))
       (case aL => have := LMc9.out;omega)
       intro v174 w11 ho hb hg hat
       rw [← Ny173.out] at ho
       have n0 := aM_ (hb)
       have n1 := aM_ (ho)
       clear HB
       clear HO_5
       have HB := n0
       have HO175 := n1
       clear n0 n1
       clear ho hb hg hat
       refine hK.out _ _ ⟨(cB_ HB.out hw171_0 :),(cB_ HB.out hw172_0 :)⟩ (fun hHeld => ?_)
       clear hK K
       refine norm_ (a' := ?_) ?_ ?_
       rotate_left
       ·show Act.put _ (some 31) _ = _
        simp only [pt_,pn_,sI_,s0_,s1_,i64_w,i32_w]
        rfl
       refine pU_ 12 (some 5) (mk_ 13 8191) ?_
       refine done_ (done_of HT_.out (by kernel_rfl)) ?_
       try go_wp2
       go_roundg k1
       case measure => have := HK1.out;omega
       case rel => exact ⟨(y173),(wrap64 (x6_1 + 1)),(by first | rfl | (simp;done) | (simp [*];done)),H',⟨by have := HK1.out;omega⟩,⟨by (with_reducible repeat (first | apply rA_ | apply rN_ | apply rD_));exact HO175.out⟩,⟨gW_ HB.out⟩⟩
      ·rw [if_neg c9] at H
       exact absurd H (by simp)
     ·rw [if_neg c7] at H
      exact absurd H (by simp)
    ·rw [if_neg c6] at H
     have c6b0 : decide (x6_1 < (l1.length : Int)) = false := decide_eq_false c6
     clear c6
     obtain rfl := Option.some.inj H
     go_wp2
     go_ret
     exact ⟨_,fR_,by (with_reducible repeat (first | apply rA_ | apply rN_ | apply rD_));exact HO_5.out,gB_ HB.out⟩
   ·rw [if_neg c5] at H
    have c5b0 : decide (x6_1 < (l0.length : Int)) = false := decide_eq_false c5
    clear c5
    obtain rfl := Option.some.inj H
    go_wp2
    go_ret
    exact ⟨_,fR_,by (with_reducible repeat (first | apply rA_ | apply rN_ | apply rD_));exact HO_5.out,gB_ HB.out⟩
def impl_Memory_load.f (k : Nat) (l0_0 : List (List (S43))) (l1 : List Int) (a2 : Int) (a3 : Int) (a4 : Bool) : Option (Int × List Int) := if 0 ≤ a2 then (if a2 < (l0_0.length : Int) then (if a2 < (l1.length : Int) then ((impl_copyInts.f l1).bind fun t179 => (if a2 < (t179.length : Int) then ((some (t179.set (a2 : Int).toNat (mx (wrap64 ((wrap64 (((rd_L4 l0_0 a2).length : Int) - 1)) - (mx a3 0))) (rd l1 a2)) : List Int)).bind fun y182 => (if 0 ≤ (mx (wrap64 ((wrap64 (((rd_L4 l0_0 a2).length : Int) - 1)) - (mx a3 0))) (rd l1 a2)) then (if (mx (wrap64 ((wrap64 (((rd_L4 l0_0 a2).length : Int) - 1)) - (mx a3 0))) (rd l1 a2)) < ((rd_L4 l0_0 a2).length : Int) then (if a4 = true then ((impl_Join.f k y182 ((rd_T43 (rd_L4 l0_0 a2) (mx (wrap64 ((wrap64 (((rd_L4 l0_0 a2).length : Int) - 1)) - (mx a3 0))) (rd l1 a2))).f1)).bind fun t186 => (some ((rd_T43 (rd_L4 l0_0 a2) (mx (wrap64 ((wrap64 (((rd_L4 l0_0 a2).length : Int) - 1)) - (mx a3 0))) (rd l1 a2))).f0,t186))) else (some ((rd_T43 (rd_L4 l0_0 a2) (mx (wrap64 ((wrap64 (((rd_L4 l0_0 a2).length : Int) - 1)) - (mx a3 0))) (rd l1 a2))).f0,y182))) else (none)) else (none))) else (none))) else (none)) else (none)) else (none)
set_option maxHeartbeats 8000000 in
set_option maxRecDepth 100000 in
theorem impl_Memory_load.calls (k : Nat) (g : Nat) (A0_0 : Option Addr) (c0_0 : Nat) (l0_0 : List (List (S43))) (A1 : Option Addr) (c1 : Nat) (l1 : List Int) (a2 : Int) (a3 : Int) (a4 : Bool) (r1 : Int) (r2 : List Int) (w : World) (hbk0 : w.heap[g]? = some (.cells #[.slice A0_0 l0_0.length c0_0] 24 (0,0))) (hr0_0 : Kd.C (Kd.slice 43 k43) w A0_0 l0_0.length l0_0) (hc0_0 : l0_0.length ≤ c0_0) (hr1 : Kd.C (Kd.int .i64) w A1 l1.length l1) (hc1 : l1.length ≤ c1) (h : impl_Memory_load.f k l0_0 l1 a2 a3 a4 = some (r1,r2)) :
  Calls Try.prog 60 #[.pointer (some ⟨g,0,none⟩),.slice A1 l1.length c1,.int .i64 a2,.int .i64 a3,.bool a4] w fun e w' => ∃ v1_ : Value,e = .returned (.tuple #[.int .i64 r1,v1_]) ∧ Kd.R (Kd.int .i64) 3 w' w.heap.size (fun _ => True) v1_ r2 ∧ Below w.heap.size w w' := by
 have BK176 := aM_ hbk0
 clear hbk0
 have hu24 := Try.underlying24
 have hu43 := Try.underlying43
 have HR0_0 := aM_ hr0_0
 have HC0_0 := aM_ hc0_0
 clear hr0_0 hc0_0
 have HR1 := aM_ hr1
 have HC1 := aM_ hc1
 clear hr1 hc1
 have HB := aM_ (Below.refl w.heap.size w)
 have H : (if 0 ≤ a2 then (if a2 < (l0_0.length : Int) then (if a2 < (l1.length : Int) then ((impl_copyInts.f l1).bind fun t179 => (if a2 < (t179.length : Int) then ((some (t179.set (a2 : Int).toNat (mx (wrap64 ((wrap64 (((rd_L4 l0_0 a2).length : Int) - 1)) - (mx a3 0))) (rd l1 a2)) : List Int)).bind fun y182 => (if 0 ≤ (mx (wrap64 ((wrap64 (((rd_L4 l0_0 a2).length : Int) - 1)) - (mx a3 0))) (rd l1 a2)) then (if (mx (wrap64 ((wrap64 (((rd_L4 l0_0 a2).length : Int) - 1)) - (mx a3 0))) (rd l1 a2)) < ((rd_L4 l0_0 a2).length : Int) then (if a4 = true then ((impl_Join.f k y182 ((rd_T43 (rd_L4 l0_0 a2) (mx (wrap64 ((wrap64 (((rd_L4 l0_0 a2).length : Int) - 1)) - (mx a3 0))) (rd l1 a2))).f1)).bind fun t186 => (some ((rd_T43 (rd_L4 l0_0 a2) (mx (wrap64 ((wrap64 (((rd_L4 l0_0 a2).length : Int) - 1)) - (mx a3 0))) (rd l1 a2))).f0,t186))) else (some ((rd_T43 (rd_L4 l0_0 a2) (mx (wrap64 ((wrap64 (((rd_L4 l0_0 a2).length : Int) - 1)) - (mx a3 0))) (rd l1 a2))).f0,y182))) else (none)) else (none))) else (none))) else (none)) else (none)) else (none)) = some (r1,r2) := h
 clear h
 by_cases c6 : 0 ≤ a2
 ·rw [if_pos c6] at H
  have c6b0 : decide (0 ≤ a2) = true := decide_eq_true c6
  clear c6
  by_cases c7 : a2 < (l0_0.length : Int)
  ·rw [if_pos c7] at H
   have c7b0 : decide (a2 < (l0_0.length : Int)) = true := decide_eq_true c7
   clear c7
   obtain ⟨ji8,hji8⟩ : ∃ j_ : Int,(mx a3 0) = j_ := ⟨_,rfl⟩
   replace H : (if a2 < (l1.length : Int) then ((impl_copyInts.f l1).bind fun t179 => (if a2 < (t179.length : Int) then ((some (t179.set (a2 : Int).toNat (mx (wrap64 ((wrap64 (((rd_L4 l0_0 a2).length : Int) - 1)) - (ji8))) (rd l1 a2)) : List Int)).bind fun y182 => (if 0 ≤ (mx (wrap64 ((wrap64 (((rd_L4 l0_0 a2).length : Int) - 1)) - (ji8))) (rd l1 a2)) then (if (mx (wrap64 ((wrap64 (((rd_L4 l0_0 a2).length : Int) - 1)) - (ji8))) (rd l1 a2)) < ((rd_L4 l0_0 a2).length : Int) then (if a4 = true then ((impl_Join.f k y182 ((rd_T43 (rd_L4 l0_0 a2) (mx (wrap64 ((wrap64 (((rd_L4 l0_0 a2).length : Int) - 1)) - (ji8))) (rd l1 a2))).f1)).bind fun t186 => (some ((rd_T43 (rd_L4 l0_0 a2) (mx (wrap64 ((wrap64 (((rd_L4 l0_0 a2).length : Int) - 1)) - (ji8))) (rd l1 a2))).f0,t186))) else (some ((rd_T43 (rd_L4 l0_0 a2) (mx (wrap64 ((wrap64 (((rd_L4 l0_0 a2).length : Int) - 1)) - (ji8))) (rd l1 a2))).f0,y182))) else (none)) else (none))) else (none))) else (none)) = some (r1,r2) := by first | (rw [hji8] at H;exact H) | (simp only [hji8] at H ⊢;exact H)
   (try (have hji8l : 0 ≤ ji8 := by (rw [← hji8];unfold mx;(repeat' split) <;> omega)))
   (try (have hji8m : 0 ≤ ji8 := by omega))
   have hji8_ : (if a3 < 0 then 0 else a3) = ji8 := hji8
   by_cases c9 : a2 < (l1.length : Int)
   ·rw [if_pos c9] at H
    have c9b0 : decide (a2 < (l1.length : Int)) = true := decide_eq_true c9
    clear c9
    obtain ⟨ji10,hji10⟩ : ∃ j_ : Int,(mx (wrap64 ((wrap64 (((rd_L4 l0_0 a2).length : Int) - 1)) - (ji8))) (rd l1 a2)) = j_ := ⟨_,rfl⟩
    replace H : ((impl_copyInts.f l1).bind fun t179 => (if a2 < (t179.length : Int) then ((some (t179.set (a2 : Int).toNat (ji10) : List Int)).bind fun y182 => (if 0 ≤ (ji10) then (if (ji10) < ((rd_L4 l0_0 a2).length : Int) then (if a4 = true then ((impl_Join.f k y182 ((rd_T43 (rd_L4 l0_0 a2) (ji10)).f1)).bind fun t186 => (some ((rd_T43 (rd_L4 l0_0 a2) (ji10)).f0,t186))) else (some ((rd_T43 (rd_L4 l0_0 a2) (ji10)).f0,y182))) else (none)) else (none))) else (none))) = some (r1,r2) := by first | (rw [hji10] at H;exact H) | (simp only [hji10] at H ⊢;exact H)
    have hji10_ : (if (wrap64 ((wrap64 (((rd_L4 l0_0 a2).length : Int) - 1)) - (ji8))) < (rd l1 a2) then (rd l1 a2) else (wrap64 ((wrap64 (((rd_L4 l0_0 a2).length : Int) - 1)) - (ji8)))) = ji10 := hji10
    replace H := Option.bind_eq_some_iff.mp H
    obtain ⟨t179,A110,H⟩ := H
    replace H : (if a2 < (t179.length : Int) then ((some (t179.set (a2 : Int).toNat (ji10) : List Int)).bind fun y182 => (if 0 ≤ (ji10) then (if (ji10) < ((rd_L4 l0_0 a2).length : Int) then (if a4 = true then ((impl_Join.f k y182 ((rd_T43 (rd_L4 l0_0 a2) (ji10)).f1)).bind fun t186 => (some ((rd_T43 (rd_L4 l0_0 a2) (ji10)).f0,t186))) else (some ((rd_T43 (rd_L4 l0_0 a2) (ji10)).f0,y182))) else (none)) else (none))) else (none)) = some (r1,r2) := H
    have A11 := aM_ A110
    clear A110
    by_cases c12 : a2 < (t179.length : Int)
    ·rw [if_pos c12] at H
     have c12b0 : decide (a2 < (t179.length : Int)) = true := decide_eq_true c12
     clear c12
     obtain ⟨y182,hy182⟩ : ∃ y_ : List Int,y_ = (t179.set (a2 : Int).toNat (ji10)) := ⟨_,rfl⟩
     replace H : (if 0 ≤ (ji10) then (if (ji10) < ((rd_L4 l0_0 a2).length : Int) then (if a4 = true then ((impl_Join.f k y182 ((rd_T43 (rd_L4 l0_0 a2) (ji10)).f1)).bind fun t186 => (some ((rd_T43 (rd_L4 l0_0 a2) (ji10)).f0,t186))) else (some ((rd_T43 (rd_L4 l0_0 a2) (ji10)).f0,y182))) else (none)) else (none)) = some (r1,r2) := by first | (rw [hy182];with_reducible exact H) | (have H2_ := (Option.bind_some _ _).symm.trans H;rw [hy182];with_reducible exact H2_) | (have H2_ := (Option.bind_some _ _).symm.trans H;with_reducible exact H2_) | with_reducible exact H | (rw [hy182];exact H) | exact H
     have Ny182 := aM_ hy182
     clear hy182
     by_cases c14 : 0 ≤ (ji10)
     ·rw [if_pos c14] at H
      have c14b0 : decide (0 ≤ (ji10)) = true := decide_eq_true c14
      clear c14
      by_cases c15 : (ji10) < ((rd_L4 l0_0 a2).length : Int)
      ·rw [if_pos c15] at H
       have c15b0 : decide ((ji10) < ((rd_L4 l0_0 a2).length : Int)) = true := decide_eq_true c15
       clear c15
       by_cases c16 : a4 = true
       ·subst c16
        have H1 : ((impl_Join.f k y182 ((rd_T43 (rd_L4 l0_0 a2) (ji10)).f1)).bind fun t186 => (some ((rd_T43 (rd_L4 l0_0 a2) (ji10)).f0,t186))) = some (r1,r2) := by rw [if_pos rfl] at H;exact H
        clear H
        have H := H1
        clear H1
        replace H := Option.bind_eq_some_iff.mp H
        obtain ⟨t186,A170,H⟩ := H
        replace H : (some ((rd_T43 (rd_L4 l0_0 a2) (ji10)).f0,t186)) = some (r1,r2) := H
        have A17 := aM_ A170
        clear A170
        simp only [Option.some.injEq,Prod.mk.injEq] at H
        obtain ⟨rfl,rfl⟩ := H
        go_enter Try.func60,Try.ntmps60
        have hcz19_0 : w.cell? ⟨g,0,none⟩ = some (.slice A0_0 l0_0.length c0_0) := (blk_cell BK176.out 0).trans rfl
        have hfz19_0 := blk_frozen BK176.out 0
        have p177 : 0 ≤ (a2 : Int) := of_decide_eq_true (by first | (with_reducible assumption) | assumption)
        have q177 : a2 < (l0_0.length : Int) := of_decide_eq_true (by first | (with_reducible assumption) | assumption)
        obtain ⟨ad177,A177_0,c177_0,e177,hx177_0,hl177_0,hi177_0⟩ := at_L4 HR0_0.out a2 p177 q177
        cases e177
        replace hx177_0 := cB_ HB.out hx177_0
        have HR177_0 := aM_ hi177_0
        have HC177_0 := aM_ hl177_0
        clear hi177_0 hl177_0
        replace p177 := eq_true p177
        replace q177 := eq_true q177
        have p178 : 0 ≤ (a2 : Int) := of_decide_eq_true (by first | (with_reducible assumption) | assumption)
        have q178 : a2 < (l1.length : Int) := of_decide_eq_true (by first | (with_reducible assumption) | assumption)
        obtain ⟨ad178,e178,hx178_0⟩ := Kd.at_int HR1.out a2 p178 q178
        cases e178
        replace hx178_0 := cB_ HB.out hx178_0
        replace p178 := eq_true p178
        replace q178 := eq_true q178
        go_wp2_with (first | ((with_reducible refine gate_callee (f := 58) rfl ?_);refine gL_ (some 35) Try.func58 #[.slice (some ad178) l1.length c1] ?_;(with_reducible refine (impl_copyInts.calls _ _ l1 t179 _ ?side1 ?side2 A11.out).mono ?_);(case side1 => exact cS_ (Kd.C_below HR1.out HB.out));(case side2 => exact HC1.out);rintro e w20 ⟨v180,rfl,ho0,hb⟩;refine ⟨_,rfl,?_⟩;have n0 := aM_ (Kd.R_lower ho0 (below_size (gB_ HB.out)));have n1 := aM_ (blk_below (g := g) (o := .cells #[.slice (some ad177) l0_0.length c0_0] 24 (0,0)) (by (with_reducible repeat (first | refine bN_ ?_ _ | refine bD_ ?_ | refine bA_ ?_ _));exact BK176.out) hb);have n2 := aM_ (sT_ HB.out hb);clear BK176;clear HB;have HO181 := n0;have BK176 := n1;have HB := n2;clear n0 n1 n2;(try clear ho0);have p13 : 0 ≤ (a2 : Int) := of_decide_eq_true (by first | (with_reducible assumption) | assumption);have q13 : (a2 : Int) < ((t179.length : Int) : Int) := of_decide_eq_true (by first | (with_reducible assumption) | assumption);obtain ⟨go13,co13,eo13,gb13,gl13,cl13,HG13⟩ := Kd.R_form HO181.out (by omega);(first | cases eo13 | (injection eo13 with ea_ en_ ec_;(first | subst ea_ | (injection ea_ with ea_;subst ea_));subst ec_;clear en_));have GB13 := aM_ gb13;have GG13 := aM_ HG13;clear gb13 gl13 HG13;obtain ⟨hx13_0,hf13_0⟩ := Kd.R_celln 0 HO181.out (a2 : Int) p13 q13;replace p13 := eq_true p13;replace q13 := eq_true q13;obtain ⟨hy21_,hz21_⟩ := Kd.R_celln 0 HO181.out (a2 : Int) (of_decide_eq_true (by first | (with_reducible assumption) | assumption)) (of_decide_eq_true (by first | (with_reducible assumption) | assumption));have HP21 := Kd.R_putg HO181.out (a2 : Int) ji10) | ((with_reducible refine gate_store (t := 3) (p := 39) rfl ?_);refine store_event (t := 3) (p := 39) (v := ?vo_w22) (w1 := (w20.setCell ⟨go13,(a2 : Int).toNat,none⟩ (.int .i64 ji10))) ?hg ?ho ?hn ?hr ?_;(case ho => rfl);(case hg => rfl);(case hn => rfl);(case hr => first | (go_simp;done) | (go_simp;rfl));intro w22 hw;have hg : w20.grownBy w22 (some go13) := (by rw [hw];exact HP21.2);have hp_ : Kd.R (Kd.int .i64) 3 w22 w.heap.size (fun _ => True) (.slice (some ⟨go13,0,none⟩) t179.length co13) y182 := (by rw [hw,Ny182.out];exact HP21.1);clear HP21;have n0 := aM_ (blk_grown (g := g) (o := .cells #[.slice (some ad177) l0_0.length c0_0] 24 (0,0)) (by (with_reducible repeat (first | refine bN_ ?_ _ | refine bD_ ?_ | refine bA_ ?_ _));exact BK176.out) hg (Kd.R_ne HO181.out BK176.out (by decide)));have n1 := aM_ (hp_);have n2 := aM_ ((by rw [hw];exact below_set (HB.out) GB13.out : Below w.heap.size w w22));clear BK176;clear HO181;clear HB;have BK176 := n0;have HO181 := n1;have HB := n2;clear n0 n1 n2;clear hg hw hp_;have hcz23_0 : w22.cell? ⟨g,0,none⟩ = some (.slice (some ad177) l0_0.length c0_0) := (blk_cell BK176.out 0).trans rfl;have hfz23_0 := blk_frozen BK176.out 0;have p183 : 0 ≤ (a2 : Int) := of_decide_eq_true (by first | (with_reducible assumption) | assumption);have q183 : a2 < (l0_0.length : Int) := of_decide_eq_true (by first | (with_reducible assumption) | assumption);obtain ⟨ad183,A183_0,c183_0,e183,hx183_0,hl183_0,hi183_0⟩ := at_L4 HR0_0.out a2 p183 q183;obtain rfl : ad177 = ad183 := (by injection e183);replace hx183_0 := cB_ HB.out hx183_0;have HR183_0 := aM_ hi183_0;have HC183_0 := aM_ hl183_0;clear hi183_0 hl183_0;replace p183 := eq_true p183;replace q183 := eq_true q183;have p184 : 0 ≤ ((ji10) : Int) := of_decide_eq_true (by first | (with_reducible assumption) | assumption);have q184 : (ji10) < ((rd_L4 l0_0 a2).length : Int) := of_decide_eq_true (by first | (with_reducible assumption) | assumption);obtain ⟨ad184,A184_1,c184_1,e184,hx184_0,hx184_1,hl184_1,hi184_1⟩ := at_T43 HR183_0.out (ji10) p184 q184;cases e184;replace hx184_0 := cB_ HB.out hx184_0;replace hx184_1 := cB_ HB.out hx184_1;have HR184_1 := aM_ hi184_1;have HC184_1 := aM_ hl184_1;clear hi184_1 hl184_1;replace p184 := eq_true p184;replace q184 := eq_true q184) | ((with_reducible refine gate_dst (N := 15) rfl ?_);refine bX_ 15 (cs := #[.int .i64 0,.slice none 0 0]) (t := 43) ?_;intro gb185 hg w24 hbox hb;have n0 := aM_ (bR_ HO181.out hb);have n1 := aM_ (blk_below (g := g) (o := .cells #[.slice (some ad177) l0_0.length c0_0] 24 (0,0)) (by (with_reducible repeat (first | refine bN_ ?_ _ | refine bD_ ?_ | refine bA_ ?_ _));exact BK176.out) hb);have n2 := aM_ (sT_ HB.out hb);have n3 := aM_ (hbox);have n4 := aM_ (sZ_ hg HB.out);have n5 := aM_ (sZ_ hg HB.out);have n6 := aM_ ((by rw [hg];exact Nat.ne_of_lt (blk_lt (g := g) (o := .cells #[.slice (some ad177) l0_0.length c0_0] 24 (0,0)) (by (with_reducible repeat (first | refine bN_ ?_ _ | refine bD_ ?_ | refine bA_ ?_ _));exact BK176.out)) : g ≠ gb185));have n7 := aM_ ((by rw [hg];exact Nat.ne_of_gt (blk_lt (g := g) (o := .cells #[.slice (some ad177) l0_0.length c0_0] 24 (0,0)) (by (with_reducible repeat (first | refine bN_ ?_ _ | refine bD_ ?_ | refine bA_ ?_ _));exact BK176.out)) : gb185 ≠ g));clear HO181;clear BK176;clear HB;have HO181 := n0;have BK176 := n1;have HB := n2;have BK185 := n3;have GW185 := n4;have GE185 := n5;have NB176_185 := n6;have NB185_176 := n7;clear n0 n1 n2 n3 n4 n5 n6 n7;clear hb hbox hg;have hnb25 := NB185_176.out;have hnc25 := NB176_185.out;obtain ⟨hcz26_0,hcz26_1,hfz26_0,hfz26_1⟩ := bR2_ BK185.out) | ((with_reducible refine gate_callee (f := 94) rfl ?_);refine goesL_ (some 54) rfl rfl Try.func94 (by kernel_rfl) rfl #[.slice (some ⟨go13,0,none⟩) y182.length co13,.slice A184_1 ((rd_T43 (rd_L4 l0_0 a2) (ji10)).f1).length c184_1] rfl (by (try simp only [List.map_toArray,List.map_cons,List.map_nil]);first | done | (rw [show y182.length = t179.length from (Kd.R_reads' HO181.out).1.symm] <;> rfl) | (simp only [hji10];rfl) | rfl | (simp only [List.length_drop,List.length_take];rfl)) ?_;(with_reducible refine (impl_Join.calls k _ _ y182 _ _ ((rd_T43 (rd_L4 l0_0 a2) (ji10)).f1) t186 _ ?side1 ?side2 ?side3 ?side4 A17.out).mono ?_);(case side1 => refine (Kd.R_reads' (e := 3) (base := w.heap.size) (ok := fun k_ => True) (n := t179.length) (c := co13) ?_).2.2;exact (by (with_reducible repeat (first | apply rA_ | apply rN_ | apply rD_));exact (Kd.R_mono (Kd.R_far (p := ⟨gb185,1,none⟩) (Kd.R_far (p := ⟨gb185,0,none⟩) (Kd.R_types HO181.out BK185.out (by decide)) (fun _ hk => hk.2) (.int .i64 ((rd_T43 (rd_L4 l0_0 a2) (ji10)).f0))) (fun _ hk => hk.2) (.slice A184_1 ((rd_T43 (rd_L4 l0_0 a2) (ji10)).f1).length c184_1)) (fun _ h_ => h_.1))));(case side2 => rw [show y182.length = t179.length from (Kd.R_reads' HO181.out).1.symm];exact (Kd.R_reads' HO181.out).2.1);(case side3 => exact Kd.C_below HR184_1.out (gB_ HB.out));(case side4 => exact HC184_1.out);rintro e w27 ⟨v187,rfl,ho0,hb⟩;refine ⟨_,rfl,?_⟩;have n0 := aM_ (Kd.R_elder' (by (with_reducible repeat (first | apply rA_ | apply rN_ | apply rD_));exact (Kd.R_mono (Kd.R_far (p := ⟨gb185,1,none⟩) (Kd.R_far (p := ⟨gb185,0,none⟩) (Kd.R_types HO181.out BK185.out (by decide)) (fun _ hk => hk.2) (.int .i64 ((rd_T43 (rd_L4 l0_0 a2) (ji10)).f0))) (fun _ hk => hk.2) (.slice A184_1 ((rd_T43 (rd_L4 l0_0 a2) (ji10)).f1).length c184_1)) (fun _ h_ => h_.1))) (Kd.R_base ho0) hb);have n1 := aM_ (Kd.R_lower (Kd.R_new' ho0 (Kd.R_lt (by (with_reducible repeat (first | apply rA_ | apply rN_ | apply rD_));exact (Kd.R_mono (Kd.R_far (p := ⟨gb185,1,none⟩) (Kd.R_far (p := ⟨gb185,0,none⟩) (Kd.R_types HO181.out BK185.out (by decide)) (fun _ hk => hk.2) (.int .i64 ((rd_T43 (rd_L4 l0_0 a2) (ji10)).f0))) (fun _ hk => hk.2) (.slice A184_1 ((rd_T43 (rd_L4 l0_0 a2) (ji10)).f1).length c184_1)) (fun _ h_ => h_.1))))) (below_size (gB_ HB.out)));have n2 := aM_ (blk_below (g := g) (o := .cells #[.slice (some ad177) l0_0.length c0_0] 24 (0,0)) (rWf_ BK176.out) hb);have n3 := aM_ (blk_below (g := gb185) (o := .cells #[.int .i64 ((rd_T43 (rd_L4 l0_0 a2) (ji10)).f0),.slice A184_1 ((rd_T43 (rd_L4 l0_0 a2) (ji10)).f1).length c184_1] 43 (0,0)) (by (with_reducible repeat (first | refine bN_ ?_ _ | refine bD_ ?_ | refine bA_ ?_ _));refine blk_put (cs := #[.int .i64 ((rd_T43 (rd_L4 l0_0 a2) (ji10)).f0),.slice none 0 0]) ?_ 1 _ rfl;refine blk_put (cs := #[.int .i64 0,.slice none 0 0]) ?_ 0 _ rfl;exact rW_ BK185.out) hb);have n4 := aM_ (sT_ HB.out hb);clear HO181;clear BK176;clear BK185;clear HB;have HO181 := n0;have HO188 := n1;have BK176 := n2;have BK185 := n3;have HB := n4;clear n0 n1 n2 n3 n4;(try clear ho0);obtain ⟨hcz28_0,hcz28_1,hfz28_0,hfz28_1⟩ := bR2_ BK185.out))
        go_ret2
        exact ⟨_,by first | rfl | (simp [errW_none,errW_some] <;> rfl) | (simp only [← hji8,← hji10];first | rfl | (simp [errW_none,errW_some] <;> rfl)) | (simp [*,errW_none,errW_some] <;> rfl),by (with_reducible repeat (first | apply rA_ | apply rN_ | apply rD_));exact Kd.R_mono HO188.out (fun _ hk => trivial),gB_ HB.out⟩
       ·replace c16 := Bool.eq_false_iff.mpr c16
        subst c16
        have H1 : (some ((rd_T43 (rd_L4 l0_0 a2) (ji10)).f0,y182)) = some (r1,r2) := by rw [if_neg (show ¬ (false = true) by decide)] at H;exact H
        clear H
        have H := H1
        clear H1
        simp only [Option.some.injEq,Prod.mk.injEq] at H
        obtain ⟨rfl,rfl⟩ := H
        go_enter Try.func60,Try.ntmps60
        have hcz30_0 : w.cell? ⟨g,0,none⟩ = some (.slice A0_0 l0_0.length c0_0) := (blk_cell BK176.out 0).trans rfl
        have hfz30_0 := blk_frozen BK176.out 0
        have p177 : 0 ≤ (a2 : Int) := of_decide_eq_true (by first | (with_reducible assumption) | assumption)
        have q177 : a2 < (l0_0.length : Int) := of_decide_eq_true (by first | (with_reducible assumption) | assumption)
        obtain ⟨ad177,A177_0,c177_0,e177,hx177_0,hl177_0,hi177_0⟩ := at_L4 HR0_0.out a2 p177 q177
        cases e177
        replace hx177_0 := cB_ HB.out hx177_0
        have HR177_0 := aM_ hi177_0
        have HC177_0 := aM_ hl177_0
        clear hi177_0 hl177_0
        replace p177 := eq_true p177
        replace q177 := eq_true q177
        have p178 : 0 ≤ (a2 : Int) := of_decide_eq_true (by first | (with_reducible assumption) | assumption)
        have q178 : a2 < (l1.length : Int) := of_decide_eq_true (by first | (with_reducible assumption) | assumption)
        obtain ⟨ad178,e178,hx178_0⟩ := Kd.at_int HR1.out a2 p178 q178
        cases e178
        replace hx178_0 := cB_ HB.out hx178_0
        replace p178 := eq_true p178
        replace q178 := eq_true q178
        go_wp2_with (first | ((with_reducible refine gate_callee (f := 58) rfl ?_);refine gL_ (some 35) Try.func58 #[.slice (some ad178) l1.length c1] ?_;(with_reducible refine (impl_copyInts.calls _ _ l1 t179 _ ?side1 ?side2 A11.out).mono ?_);(case side1 => exact cS_ (Kd.C_below HR1.out HB.out));(case side2 => exact HC1.out);rintro e w31 ⟨v180,rfl,ho0,hb⟩;refine ⟨_,rfl,?_⟩;have n0 := aM_ (Kd.R_lower ho0 (below_size (gB_ HB.out)));have n1 := aM_ (blk_below (g := g) (o := .cells #[.slice (some ad177) l0_0.length c0_0] 24 (0,0)) (by (with_reducible repeat (first | refine bN_ ?_ _ | refine bD_ ?_ | refine bA_ ?_ _));exact BK176.out) hb);have n2 := aM_ (sT_ HB.out hb);clear BK176;clear HB;have HO181 := n0;have BK176 := n1;have HB := n2;clear n0 n1 n2;(try clear ho0);have p13 : 0 ≤ (a2 : Int) := of_decide_eq_true (by first | (with_reducible assumption) | assumption);have q13 : (a2 : Int) < ((t179.length : Int) : Int) := of_decide_eq_true (by first | (with_reducible assumption) | assumption);obtain ⟨go13,co13,eo13,gb13,gl13,cl13,HG13⟩ := Kd.R_form HO181.out (by omega);(first | cases eo13 | (injection eo13 with ea_ en_ ec_;(first | subst ea_ | (injection ea_ with ea_;subst ea_));subst ec_;clear en_));have GB13 := aM_ gb13;have GG13 := aM_ HG13;clear gb13 gl13 HG13;obtain ⟨hx13_0,hf13_0⟩ := Kd.R_celln 0 HO181.out (a2 : Int) p13 q13;replace p13 := eq_true p13;replace q13 := eq_true q13;obtain ⟨hy32_,hz32_⟩ := Kd.R_celln 0 HO181.out (a2 : Int) (of_decide_eq_true (by first | (with_reducible assumption) | assumption)) (of_decide_eq_true (by first | (with_reducible assumption) | assumption));have HP32 := Kd.R_putg HO181.out (a2 : Int) ji10) | ((with_reducible refine gate_store (t := 3) (p := 39) rfl ?_);refine store_event (t := 3) (p := 39) (v := ?vo_w33) (w1 := (w31.setCell ⟨go13,(a2 : Int).toNat,none⟩ (.int .i64 ji10))) ?hg ?ho ?hn ?hr ?_;(case ho => rfl);(case hg => rfl);(case hn => rfl);(case hr => first | (go_simp;done) | (go_simp;rfl));intro w33 hw;have hg : w31.grownBy w33 (some go13) := (by rw [hw];exact HP32.2);have hp_ : Kd.R (Kd.int .i64) 3 w33 w.heap.size (fun _ => True) (.slice (some ⟨go13,0,none⟩) t179.length co13) y182 := (by rw [hw,Ny182.out];exact HP32.1);clear HP32;have n0 := aM_ (blk_grown (g := g) (o := .cells #[.slice (some ad177) l0_0.length c0_0] 24 (0,0)) (by (with_reducible repeat (first | refine bN_ ?_ _ | refine bD_ ?_ | refine bA_ ?_ _));exact BK176.out) hg (Kd.R_ne HO181.out BK176.out (by decide)));have n1 := aM_ (hp_);have n2 := aM_ ((by rw [hw];exact below_set (HB.out) GB13.out : Below w.heap.size w w33));clear BK176;clear HO181;clear HB;have BK176 := n0;have HO181 := n1;have HB := n2;clear n0 n1 n2;clear hg hw hp_;have hcz34_0 : w33.cell? ⟨g,0,none⟩ = some (.slice (some ad177) l0_0.length c0_0) := (blk_cell BK176.out 0).trans rfl;have hfz34_0 := blk_frozen BK176.out 0;have p183 : 0 ≤ (a2 : Int) := of_decide_eq_true (by first | (with_reducible assumption) | assumption);have q183 : a2 < (l0_0.length : Int) := of_decide_eq_true (by first | (with_reducible assumption) | assumption);obtain ⟨ad183,A183_0,c183_0,e183,hx183_0,hl183_0,hi183_0⟩ := at_L4 HR0_0.out a2 p183 q183;obtain rfl : ad177 = ad183 := (by injection e183);replace hx183_0 := cB_ HB.out hx183_0;have HR183_0 := aM_ hi183_0;have HC183_0 := aM_ hl183_0;clear hi183_0 hl183_0;replace p183 := eq_true p183;replace q183 := eq_true q183;have p184 : 0 ≤ ((ji10) : Int) := of_decide_eq_true (by first | (with_reducible assumption) | assumption);have q184 : (ji10) < ((rd_L4 l0_0 a2).length : Int) := of_decide_eq_true (by first | (with_reducible assumption) | assumption);obtain ⟨ad184,A184_1,c184_1,e184,hx184_0,hx184_1,hl184_1,hi184_1⟩ := at_T43 HR183_0.out (ji10) p184 q184;cases e184;replace hx184_0 := cB_ HB.out hx184_0;replace hx184_1 := cB_ HB.out hx184_1;have HR184_1 := aM_ hi184_1;have HC184_1 := aM_ hl184_1;clear hi184_1 hl184_1;replace p184 := eq_true p184;replace q184 := eq_true q184) | ((with_reducible refine gate_dst (N := 15) rfl ?_);refine bX_ 15 (cs := #[.int .i64 0,.slice none 0 0]) (t := 43) ?_;intro gb185 hg w35 hbox hb;have n0 := aM_ (bR_ HO181.out hb);have n1 := aM_ (blk_below (g := g) (o := .cells #[.slice (some ad177) l0_0.length c0_0] 24 (0,0)) (by (with_reducible repeat (first | refine bN_ ?_ _ | refine bD_ ?_ | refine bA_ ?_ _));exact BK176.out) hb);have n2 := aM_ (sT_ HB.out hb);have n3 := aM_ (hbox);have n4 := aM_ (sZ_ hg HB.out);have n5 := aM_ (sZ_ hg HB.out);have n6 := aM_ ((by rw [hg];exact Nat.ne_of_lt (blk_lt (g := g) (o := .cells #[.slice (some ad177) l0_0.length c0_0] 24 (0,0)) (by (with_reducible repeat (first | refine bN_ ?_ _ | refine bD_ ?_ | refine bA_ ?_ _));exact BK176.out)) : g ≠ gb185));have n7 := aM_ ((by rw [hg];exact Nat.ne_of_gt (blk_lt (g := g) (o := .cells #[.slice (some ad177) l0_0.length c0_0] 24 (0,0)) (by (with_reducible repeat (first | refine bN_ ?_ _ | refine bD_ ?_ | refine bA_ ?_ _));exact BK176.out)) : gb185 ≠ g));clear HO181;clear BK176;clear HB;have HO181 := n0;have BK176 := n1;have HB := n2;have BK185 := n3;have GW185 := n4;have GE185 := n5;have NB176_185 := n6;have NB185_176 := n7;clear n0 n1 n2 n3 n4 n5 n6 n7;clear hb hbox hg;have hnb36 := NB185_176.out;have hnc36 := NB176_185.out;obtain ⟨hcz37_0,hcz37_1,hfz37_0,hfz37_1⟩ := bR2_ BK185.out))
        go_ret2
        exact ⟨_,by first | rfl | (simp [errW_none,errW_some] <;> rfl) | (simp only [← hji8,← hji10];first | rfl | (simp [errW_none,errW_some] <;> rfl)) | (simp [*,errW_none,errW_some] <;> rfl),by (with_reducible repeat (first | apply rA_ | apply rN_ | apply rD_));exact Kd.R_mono (Kd.R_far (p := ⟨gb185,1,none⟩) (Kd.R_far (p := ⟨gb185,0,none⟩) (Kd.R_types HO181.out BK185.out (by decide)) (fun _ hk => hk.2) (.int .i64 ((rd_T43 (rd_L4 l0_0 a2) (ji10)).f0))) (fun _ hk => hk.2) (.slice A184_1 ((rd_T43 (rd_L4 l0_0 a2) (ji10)).f1).length c184_1)) (fun _ hk => trivial),gB_ HB.out⟩
      ·rw [if_neg c15] at H
       exact absurd H (by simp)
     ·rw [if_neg c14] at H
      exact absurd H (by simp)
    ·rw [if_neg c12] at H
     exact absurd H (by simp)
   ·rw [if_neg c9] at H
    exact absurd H (by simp)
  ·rw [if_neg c7] at H
   exact absurd H (by simp)
 ·rw [if_neg c6] at H
  exact absurd H (by simp)
end Go.Proofs.Ythbcnakmnbilhaa.PFnStore
