/- A part of the proof that the law FnLoad holds for every input: the words, functions and walks that its row needs, without a condition of their own. -/
import Derived.Test.YthbcnakmnbilhaaZFnLoada2
import Derived.Test.YthbcnakmnbilhaaZFnLoada4
import Derived.Test.YthbcnakmnbilhaaZFnLoada7
import Derived.Test.YthbcnakmnbilhaaZFnLoada9
import Derived.Test.YthbcnakmnbilhaaZFnLoads
namespace Go.Proofs.Ythbcnakmnbilhaa.PFnLoad
open Go.RowKit Go.Proofs.YthbcnakmnbilhaaW.PrintWords Go.Proofs.YthbcnakmnbilhaaW.PrintLast Go.Proofs.YthbcnakmnbilhaaW.PrintMore Go.Proofs.Ythbcnakmnbilhaa.SepMark
attribute [local go_sem] max2_int min2_int max_two min_two max_three min_three max_four min_four   -- for this text's walks alone
set_option linter.unusedVariables false
set_option linter.unusedSimpArgs false
def spec_l6Store.f (l0_0 : List (List (S43))) (l1 : List Int) (a2 : Int) (a3 : Int) (a4 : Bool) : Option ((List (List (S43))) × List Int) := (some (([] : List Int) : List Int)).bind fun y265 => (if y265.length + l1.length < 17592186044416 then ((some (y265 ++ l1 : List Int)).bind fun y268 => (if 0 ≤ a2 then (if a2 < (l0_0.length : Int) then (if a2 < (y268.length : Int) then ((some (y268.set (a2 : Int).toNat ((rd_L4 l0_0 a2).length : Int) : List Int)).bind fun y272 => (if 24 ≤ 35184372088832 then (if a2 < ((List.replicate 24 0).length : Int) then (if a4 = true then (if (([] : List Int)).length + y272.length < 17592186044416 then (if (rd_L4 l0_0 a2).length < 4398046511104 then (some (l0_0.set (a2 : Int).toNat (rd_L4 l0_0 a2 ++ [(⟨a3,(([] : List Int)) ++ y272⟩ : S43)]),y272)) else (none)) else (none)) else (if (rd_L4 l0_0 a2).length < 4398046511104 then (some (l0_0.set (a2 : Int).toNat (rd_L4 l0_0 a2 ++ [(⟨a3,(List.replicate 24 0).set (a2 : Int).toNat (rd y272 a2)⟩ : S43)]),y272)) else (none))) else (none)) else (none))) else (none)) else (none)) else (none))) else (none))
def spec_l6Store.T4 : Bool × List (List Nat × List Nat) := (true,[([],[]),([0],[0]),([],[]),([],[]),([],[]),([3,4],[3,4]),([5],[5]),([1,2,0,1,2,3,4,5,6],[1,2]),([7,6,0,1,2,3,4,5,6],[6,7])])
def spec_l6Store.B4 : List Nat := [0,1,0,0,0,24,56,127,255]
theorem spec_l6Store.tab4 : rtab .any (opsOf Try.f86 4) = spec_l6Store.T4 := by kernel_rfl
theorem spec_l6Store.bits4 : waitsOk spec_l6Store.T4.2 spec_l6Store.B4 = true := by kernel_rfl
set_option maxHeartbeats 8000000 in
set_option maxRecDepth 100000 in
theorem spec_l6Store.calls (P0_0_ : Nat → Prop) (A0_0 : Option Addr) (c0_0 : Nat) (l0_0 : List (List (S43))) (A1 : Option Addr) (c1 : Nat) (l1 : List Int) (a2 : Int) (a3 : Int) (a4 : Bool) (r1 : List (List (S43))) (r2 : List Int) (b0 : Nat) (w : World) (hS0 : Kd.S (sslice 43 k43) 44 w b0 P0_0_ (.slice A0_0 l0_0.length c0_0) l0_0) (hb0 : b0 ≤ w.heap.size) (hr1 : Kd.C (Kd.int .i64) w A1 l1.length l1) (hc1 : l1.length ≤ c1) (h : spec_l6Store.f l0_0 l1 a2 a3 a4 = some (r1,r2)) :
  Calls Try.prog 86 #[.agg #[.slice A0_0 l0_0.length c0_0],.slice A1 l1.length c1,.int .i64 a2,.int .i64 a3,.bool a4] w fun e w' => ∃ v0_ v1_ : Value,e = .returned (.tuple #[.agg #[v0_],v1_]) ∧ Kd.S (sslice 43 k43) 44 w' b0 (fun k_ => (P0_0_ k_ ∨ w.heap.size ≤ k_) ∧ some k_ ≠ (v1_ : Value).ownBlock) v0_ r1 ∧ Kd.R (Kd.int .i64) 3 w' w.heap.size (fun k_ => (w.heap.size ≤ k_)) v1_ r2 ∧ Below b0 w w' ∧ Kept w w' P0_0_ := by
 have hs0_0 : Kd.V (Kd.slice 43 k43) 44 w w.heap.size (fun k_ => P0_0_ k_) (.slice A0_0 l0_0.length c0_0) l0_0 := Kd.R_V (S_Rs hS0)
 have hS := aM_ hS0
 have hb0w := aM_ hb0
 clear hS0 hb0
 have hu24 := Try.underlying24
 have hu43 := Try.underlying43
 have HO0_0 := aM_ (show Kd.V (Kd.slice 43 k43) 44 w w.heap.size (fun k_ => (P0_0_ k_ ∨ w.heap.size ≤ k_)) (.slice A0_0 l0_0.length c0_0) l0_0 from Kd.V_mono hs0_0 (fun k_ hk => .inl hk))
 have HR1 := aM_ hr1
 have HC1 := aM_ hc1
 clear hr1 hc1
 have HB := aM_ (Below.refl w.heap.size w)
 have H : ((some (([] : List Int) : List Int)).bind fun y265 => (if y265.length + l1.length < 17592186044416 then ((some (y265 ++ l1 : List Int)).bind fun y268 => (if 0 ≤ a2 then (if a2 < (l0_0.length : Int) then (if a2 < (y268.length : Int) then ((some (y268.set (a2 : Int).toNat ((rd_L4 l0_0 a2).length : Int) : List Int)).bind fun y272 => (if 24 ≤ 35184372088832 then (if a2 < ((List.replicate 24 0).length : Int) then (if a4 = true then (if (([] : List Int)).length + y272.length < 17592186044416 then (if (rd_L4 l0_0 a2).length < 4398046511104 then (some (l0_0.set (a2 : Int).toNat (rd_L4 l0_0 a2 ++ [(⟨a3,(([] : List Int)) ++ y272⟩ : S43)]),y272)) else (none)) else (none)) else (if (rd_L4 l0_0 a2).length < 4398046511104 then (some (l0_0.set (a2 : Int).toNat (rd_L4 l0_0 a2 ++ [(⟨a3,(List.replicate 24 0).set (a2 : Int).toNat (rd y272 a2)⟩ : S43)]),y272)) else (none))) else (none)) else (none))) else (none)) else (none)) else (none))) else (none))) = some (r1,r2) := h
 clear h
 obtain ⟨y265,hy265⟩ : ∃ y_ : List Int,y_ = (([] : List Int)) := ⟨_,rfl⟩
 replace H : (if y265.length + l1.length < 17592186044416 then ((some (y265 ++ l1 : List Int)).bind fun y268 => (if 0 ≤ a2 then (if a2 < (l0_0.length : Int) then (if a2 < (y268.length : Int) then ((some (y268.set (a2 : Int).toNat ((rd_L4 l0_0 a2).length : Int) : List Int)).bind fun y272 => (if 24 ≤ 35184372088832 then (if a2 < ((List.replicate 24 0).length : Int) then (if a4 = true then (if (([] : List Int)).length + y272.length < 17592186044416 then (if (rd_L4 l0_0 a2).length < 4398046511104 then (some (l0_0.set (a2 : Int).toNat (rd_L4 l0_0 a2 ++ [(⟨a3,(([] : List Int)) ++ y272⟩ : S43)]),y272)) else (none)) else (none)) else (if (rd_L4 l0_0 a2).length < 4398046511104 then (some (l0_0.set (a2 : Int).toNat (rd_L4 l0_0 a2 ++ [(⟨a3,(List.replicate 24 0).set (a2 : Int).toNat (rd y272 a2)⟩ : S43)]),y272)) else (none))) else (none)) else (none))) else (none)) else (none)) else (none))) else (none)) = some (r1,r2) := by first | (rw [hy265];with_reducible exact H) | (have H2_ := (Option.bind_some _ _).symm.trans H;rw [hy265];with_reducible exact H2_) | (have H2_ := (Option.bind_some _ _).symm.trans H;with_reducible exact H2_) | with_reducible exact H | (rw [hy265];exact H) | exact H
 have Ny265 := aM_ hy265
 clear hy265
 by_cases c6 : y265.length + l1.length < 17592186044416
 ·rw [if_pos c6] at H
  have LMc6 := aM_ c6
  clear c6
  obtain ⟨y268,hy268⟩ : ∃ y_ : List Int,y_ = (y265 ++ l1) := ⟨_,rfl⟩
  replace H : (if 0 ≤ a2 then (if a2 < (l0_0.length : Int) then (if a2 < (y268.length : Int) then ((some (y268.set (a2 : Int).toNat ((rd_L4 l0_0 a2).length : Int) : List Int)).bind fun y272 => (if 24 ≤ 35184372088832 then (if a2 < ((List.replicate 24 0).length : Int) then (if a4 = true then (if (([] : List Int)).length + y272.length < 17592186044416 then (if (rd_L4 l0_0 a2).length < 4398046511104 then (some (l0_0.set (a2 : Int).toNat (rd_L4 l0_0 a2 ++ [(⟨a3,(([] : List Int)) ++ y272⟩ : S43)]),y272)) else (none)) else (none)) else (if (rd_L4 l0_0 a2).length < 4398046511104 then (some (l0_0.set (a2 : Int).toNat (rd_L4 l0_0 a2 ++ [(⟨a3,(List.replicate 24 0).set (a2 : Int).toNat (rd y272 a2)⟩ : S43)]),y272)) else (none))) else (none)) else (none))) else (none)) else (none)) else (none)) = some (r1,r2) := by first | (rw [hy268];with_reducible exact H) | (have H2_ := (Option.bind_some _ _).symm.trans H;rw [hy268];with_reducible exact H2_) | (have H2_ := (Option.bind_some _ _).symm.trans H;with_reducible exact H2_) | with_reducible exact H | (rw [hy268];exact H) | exact H
  have Ny268 := aM_ hy268
  clear hy268
  by_cases c7 : 0 ≤ a2
  ·rw [if_pos c7] at H
   have c7b0 : decide (0 ≤ a2) = true := decide_eq_true c7
   clear c7
   by_cases c8 : a2 < (l0_0.length : Int)
   ·rw [if_pos c8] at H
    have c8b0 : decide (a2 < (l0_0.length : Int)) = true := decide_eq_true c8
    clear c8
    by_cases c9 : a2 < (y268.length : Int)
    ·rw [if_pos c9] at H
     have c9b0 : decide (a2 < (y268.length : Int)) = true := decide_eq_true c9
     clear c9
     obtain ⟨y272,hy272⟩ : ∃ y_ : List Int,y_ = (y268.set (a2 : Int).toNat ((rd_L4 l0_0 a2).length : Int)) := ⟨_,rfl⟩
     replace H : (if 24 ≤ 35184372088832 then (if a2 < ((List.replicate 24 0).length : Int) then (if a4 = true then (if (([] : List Int)).length + y272.length < 17592186044416 then (if (rd_L4 l0_0 a2).length < 4398046511104 then (some (l0_0.set (a2 : Int).toNat (rd_L4 l0_0 a2 ++ [(⟨a3,(([] : List Int)) ++ y272⟩ : S43)]),y272)) else (none)) else (none)) else (if (rd_L4 l0_0 a2).length < 4398046511104 then (some (l0_0.set (a2 : Int).toNat (rd_L4 l0_0 a2 ++ [(⟨a3,(List.replicate 24 0).set (a2 : Int).toNat (rd y272 a2)⟩ : S43)]),y272)) else (none))) else (none)) else (none)) = some (r1,r2) := by first | (rw [hy272];with_reducible exact H) | (have H2_ := (Option.bind_some _ _).symm.trans H;rw [hy272];with_reducible exact H2_) | (have H2_ := (Option.bind_some _ _).symm.trans H;with_reducible exact H2_) | with_reducible exact H | (rw [hy272];exact H) | exact H
     have Ny272 := aM_ hy272
     clear hy272
     by_cases c11 : 24 ≤ 35184372088832
     ·rw [if_pos c11] at H
      have c11b0 := eq_true c11
      have c11b1 : decide (24 ≤ 35184372088832) = true := decide_eq_true c11
      clear c11
      obtain ⟨y273,hy273⟩ : ∃ y_ : List Int,y_ = (List.replicate 24 0) := ⟨_,rfl⟩
      replace H : (if a2 < (y273.length : Int) then (if a4 = true then (if (([] : List Int)).length + y272.length < 17592186044416 then (if (rd_L4 l0_0 a2).length < 4398046511104 then (some (l0_0.set (a2 : Int).toNat (rd_L4 l0_0 a2 ++ [(⟨a3,(([] : List Int)) ++ y272⟩ : S43)]),y272)) else (none)) else (none)) else (if (rd_L4 l0_0 a2).length < 4398046511104 then (some (l0_0.set (a2 : Int).toNat (rd_L4 l0_0 a2 ++ [(⟨a3,y273.set (a2 : Int).toNat (rd y272 a2)⟩ : S43)]),y272)) else (none))) else (none)) = some (r1,r2) := by first | (rw [hy273];with_reducible exact H) | (have H2_ := (Option.bind_some _ _).symm.trans H;rw [hy273];with_reducible exact H2_) | (have H2_ := (Option.bind_some _ _).symm.trans H;with_reducible exact H2_) | with_reducible exact H | (rw [hy273];exact H) | exact H
      have Ny273 := aM_ hy273
      clear hy273
      by_cases c12 : a2 < (y273.length : Int)
      ·rw [if_pos c12] at H
       have c12b0 : decide (a2 < (y273.length : Int)) = true := decide_eq_true c12
       clear c12
       obtain ⟨y278,hy278⟩ : ∃ y_ : List Int,y_ = (y273.set (a2 : Int).toNat (rd y272 a2)) := ⟨_,rfl⟩
       replace H : (if a4 = true then (if (([] : List Int)).length + y272.length < 17592186044416 then (if (rd_L4 l0_0 a2).length < 4398046511104 then (some (l0_0.set (a2 : Int).toNat (rd_L4 l0_0 a2 ++ [(⟨a3,(([] : List Int)) ++ y272⟩ : S43)]),y272)) else (none)) else (none)) else (if (rd_L4 l0_0 a2).length < 4398046511104 then (some (l0_0.set (a2 : Int).toNat (rd_L4 l0_0 a2 ++ [(⟨a3,y278⟩ : S43)]),y272)) else (none))) = some (r1,r2) := by first | (rw [hy278];with_reducible exact H) | (have H2_ := (Option.bind_some _ _).symm.trans H;rw [hy278];with_reducible exact H2_) | (have H2_ := (Option.bind_some _ _).symm.trans H;with_reducible exact H2_) | with_reducible exact H | (rw [hy278];exact H) | exact H
       have Ny278 := aM_ hy278
       clear hy278
       by_cases c14 : a4 = true
       ·subst c14
        have H1 : (if (([] : List Int)).length + y272.length < 17592186044416 then (if (rd_L4 l0_0 a2).length < 4398046511104 then (some (l0_0.set (a2 : Int).toNat (rd_L4 l0_0 a2 ++ [(⟨a3,(([] : List Int)) ++ y272⟩ : S43)]),y272)) else (none)) else (none)) = some (r1,r2) := by rw [if_pos rfl] at H;exact H
        clear H
        have H := H1
        clear H1
        obtain ⟨y279,hy279⟩ : ∃ y_ : List Int,y_ = (([] : List Int)) := ⟨_,rfl⟩
        replace H : (if y279.length + y272.length < 17592186044416 then (if (rd_L4 l0_0 a2).length < 4398046511104 then (some (l0_0.set (a2 : Int).toNat (rd_L4 l0_0 a2 ++ [(⟨a3,y279 ++ y272⟩ : S43)]),y272)) else (none)) else (none)) = some (r1,r2) := by first | (rw [hy279];with_reducible exact H) | (have H2_ := (Option.bind_some _ _).symm.trans H;rw [hy279];with_reducible exact H2_) | (have H2_ := (Option.bind_some _ _).symm.trans H;with_reducible exact H2_) | with_reducible exact H | (rw [hy279];exact H) | exact H
        have Ny279 := aM_ hy279
        clear hy279
        by_cases c15 : y279.length + y272.length < 17592186044416
        ·rw [if_pos c15] at H
         have LMc15 := aM_ c15
         clear c15
         obtain ⟨y282,hy282⟩ : ∃ y_ : List Int,y_ = (y279 ++ y272) := ⟨_,rfl⟩
         replace H : (if (rd_L4 l0_0 a2).length < 4398046511104 then (some (l0_0.set (a2 : Int).toNat (rd_L4 l0_0 a2 ++ [(⟨a3,y282⟩ : S43)]),y272)) else (none)) = some (r1,r2) := by first | (rw [hy282];with_reducible exact H) | (have H2_ := (Option.bind_some _ _).symm.trans H;rw [hy282];with_reducible exact H2_) | (have H2_ := (Option.bind_some _ _).symm.trans H;with_reducible exact H2_) | with_reducible exact H | (rw [hy282];exact H) | exact H
         have Ny282 := aM_ hy282
         clear hy282
         by_cases cP : (rd_L4 l0_0 a2).length < 4398046511104
         case neg => rw [if_neg cP] at H;exact absurd H (by simp)
         rw [if_pos cP] at H
         have LMcP := aM_ cP
         clear cP
         obtain ⟨yP,hyP⟩ : ∃ y_ : List S43,y_ = rd_L4 l0_0 a2 ++ [(⟨a3,y282⟩ : S43)] := ⟨_,rfl⟩
         replace H : (some (l0_0.set (a2 : Int).toNat yP,y272)) = some (r1,r2) := by rw [hyP];exact H
         have NyP := aM_ hyP
         clear hyP
         simp only [Option.some.injEq,Prod.mk.injEq] at H
         obtain ⟨rfl,rfl⟩ := H
         go_enter Try.func86,Try.ntmps86
         try go_wp2_with (first | ((with_reducible refine gate_dst (N := 5) rfl ?_);refine bX_ 5 (cs := #[.slice A0_0 l0_0.length c0_0]) (t := 24) ?_;intro gb263 hg w16 hbox hb;have n0 := aM_ (Kd.V_below (Kd.V_elderB (by (with_reducible repeat (first | apply Kd.V_alloc | apply Kd.V_drewN | apply Kd.V_drew));exact HO0_0.out) gb263 (Nat.le_of_eq hg.symm)) hb);have n1 := aM_ (sT_ HB.out hb);have n2 := aM_ (hbox);have n3 := aM_ (sZ_ hg HB.out);have n4 := aM_ (sZ_ hg HB.out);clear HO0_0;clear HB;have HO0_0 := n0;have HB := n1;have BK263 := n2;have GW263 := n3;have GE263 := n4;clear n0 n1 n2 n3 n4;clear hb hbox hg) | ((with_reducible refine gate_dst (N := 10) rfl ?_);refine bX_ 10 (cs := #[.slice none 0 0]) (t := 24) ?_;intro gb264 hg w17 hbox hb;have n0 := aM_ (Kd.V_below (Kd.V_elderB (by (with_reducible repeat (first | apply Kd.V_alloc | apply Kd.V_drewN | apply Kd.V_drew));exact HO0_0.out) gb264 (Nat.le_of_eq hg.symm)) hb);have n1 := aM_ (nB_ BK263.out hb);have n2 := aM_ (sT_ HB.out hb);have n3 := aM_ (hbox);have n4 := aM_ (sZ_ hg HB.out);have n5 := aM_ (sZ_ hg HB.out);have n6 := aM_ (nL_ hg BK263.out);have n7 := aM_ (nG_ hg BK263.out);clear HO0_0;clear BK263;clear HB;have HO0_0 := n0;have BK263 := n1;have HB := n2;have BK264 := n3;have GW264 := n4;have GE264 := n5;have NB263_264 := n6;have NB264_263 := n7;clear n0 n1 n2 n3 n4 n5 n6 n7;clear hb hbox hg) | ((with_reducible refine gate_dst (N := 14) rfl ?_);refine Kd.R_lit (Kd.int .i64) _ 3 ?hg (N := 14) ?hd (xs := ([] : List Int)) (inner := []) (ok := fun _ => True) (okp := fun _ => True) ?hr ?hp (fun _ hk => hk) trivial (Below.refl _ _) (Nat.le_refl _) (by simp) ?_;(case hd => rfl);(case hg => rfl);(case hr => first | (go_simp;done) | (go_simp;rfl));(case hp => exact (Reps.none _ _));intro v266 w18 ho19 hb hg_ hnew_;clear hg_ hnew_;(first | rw [← Ny265.out] at ho19 | (simp only [Int.reduceToNat] at ho19;rw [← Ny265.out] at ho19));have n0 := aM_ (Kd.V_elder' (by (with_reducible repeat (first | apply Kd.V_alloc | apply Kd.V_drewN | apply Kd.V_drew));exact HO0_0.out) (Kd.R_base ho19) hb);have n1 := aM_ (Kd.R_lower (Kd.R_newM (M := fun k_ => (w.heap.size ≤ k_)) ho19 (below_size (gB_ HB.out)) (fun k_ h_ => h_)) (below_size (gB_ HB.out)));have n2 := aM_ (nB_ BK263.out hb);have n3 := aM_ (nB_ BK264.out hb);have n4 := aM_ (sT_ HB.out hb);clear HO0_0;clear BK263;clear BK264;clear HB;have HO0_0 := n0;have HO267 := n1;have BK263 := n2;have BK264 := n3;have HB := n4;clear n0 n1 n2 n3 n4;clear hb ho19) | ((with_reducible refine gate_builtin (b := .append) (xs := #[.tmp 14,.tmp 15]) rfl ?_);at_builtin;refine Kd.R_append_rows (Kd.int .i64) (w0 := w) w.heap.size rfl (.tmp 14) (.tmp 15) 31 3 (.int .i64 0) 8 rfl Try.underlying31 info3 rfl (by decide) (by omega) v266 y265 l1 _ _ _ (fun k_ => (w.heap.size ≤ k_)) (fun _ => False) rfl rfl ?aO ?aR (fun _ _ h => h) (fun _ h => h.elim) ?aF ?aB ?aS ?aL ?_;(case aR => repeat (first | exact (Kd.C_below HR1.out HB.out) | (with_reducible refine Kd.C_alloc ?_ _) | (with_reducible refine Kd.C_drewN ?_ _) | (with_reducible refine Kd.C_drew ?_)));(case aB => exact (gB_ HB.out));(case aF => exact (fun k_ hk => (Nat.le_trans (below_size (gB_ HB.out)) hk)));(case aO => exact (by (with_reducible repeat (first | apply rA_ | apply rN_ | apply rD_));exact Kd.R_mono HO267.out (fun _ hk => hk.1)));(case aS => exact (below_size (gB_ HB.out)));(case aL => have := LMc6.out;omega);intro v269 w20 ho hb hg hat;rw [← Ny268.out] at ho;have n0 := aM_ (Kd.V_afterv (ok := (fun k_ => (P0_0_ k_ ∨ w.heap.size ≤ k_) ∧ k_ ≠ gb263 ∧ k_ ≠ gb264)) (by (with_reducible repeat (first | apply Kd.V_alloc | apply Kd.V_drewN | apply Kd.V_drew));exact Kd.V_mono HO0_0.out (fun _ hk => ⟨⟨hk.1.1.1,⟨hk.1.1.2,hk.1.2⟩⟩,hk.2⟩)) hg hat);have n1 := aM_ (blk_grown (g := gb263) (o := .cells #[.slice A0_0 l0_0.length c0_0] 24 (0,0)) (by (with_reducible repeat (first | refine bN_ ?_ _ | refine bD_ ?_ | refine bA_ ?_ _));exact BK263.out) hg (Kd.R_ne HO267.out BK263.out (by decide)));have n2 := aM_ (blk_grown (g := gb264) (o := .cells #[.slice none 0 0] 24 (0,0)) (by (with_reducible repeat (first | refine bN_ ?_ _ | refine bD_ ?_ | refine bA_ ?_ _));exact BK264.out) hg (Kd.R_ne HO267.out BK264.out (by decide)));have n3 := aM_ (hb);have n4 := aM_ (ho);clear HO0_0;clear BK263;clear BK264;clear HB;clear HO267;have HO0_0 := n0;have BK263 := n1;have BK264 := n2;have HB := n3;have HO270 := n4;clear n0 n1 n2 n3 n4;clear ho hb hg hat;have hnb21 := NB263_264.out;have hnc21 := NB264_263.out;have hcz22_0 : w20.cell? ⟨gb263,0,none⟩ = some (.slice A0_0 l0_0.length c0_0) := (blk_cell BK263.out 0).trans rfl;have hfz22_0 := blk_frozen BK263.out 0;have p271 : 0 ≤ (a2 : Int) := of_decide_eq_true (by first | (with_reducible assumption) | assumption);have q271 : a2 < (l0_0.length : Int) := of_decide_eq_true (by first | (with_reducible assumption) | assumption);obtain ⟨ad271,A271_0,c271_0,e271,hx271_0,hl271_0,hi271_0⟩ := at_L4 (Kd.V_reads' HO0_0.out).2.2 a2 p271 q271;cases e271;obtain ⟨ce271,hce271,hMe271,hcc271⟩ := Kd.V_get HO0_0.out [] a2 p271 (by first | exact q271 | exact of_decide_eq_true (by first | (with_reducible assumption) | assumption) | (have e_ := (Kd.V_reads' HO0_0.out).1;omega));obtain ⟨ua271_0,uc271_0,rfl,ul271_0,ge271_0⟩ := Kd.FK_slice_open hMe271;have hv271_0 := hcc271 0 _ rfl;rw [Nat.add_zero,show ((Kd.slice 43 k43)).sz = 1 from rfl,Nat.mul_one] at hv271_0;replace hv271_0 := Option.some.inj (hv271_0.symm.trans hx271_0);injection hv271_0 with hva_ hvn_ hvc_;rw [hva_] at ge271_0;rw [hvc_] at ul271_0;have HL271_0 := aM_ (show Kd.V k43 43 _ w.heap.size _ _ (rd_L4 l0_0 a2) from Kd.V_mk ul271_0 ge271_0);clear hva_ hvn_ hvc_ ge271_0 ul271_0;clear hcc271 hce271;have HR271_0 := aM_ hi271_0;have HC271_0 := aM_ hl271_0;clear hi271_0 hl271_0;replace p271 := eq_true p271;replace q271 := eq_true q271;have p10 : 0 ≤ (a2 : Int) := of_decide_eq_true (by first | (with_reducible assumption) | assumption);have q10 : (a2 : Int) < ((y268.length : Int) : Int) := of_decide_eq_true (by first | (with_reducible assumption) | assumption);obtain ⟨go10,co10,eo10,gb10,gl10,cl10,HG10⟩ := Kd.R_form HO270.out (by omega);(first | cases eo10 | (injection eo10 with ea_ en_ ec_;(first | subst ea_ | (injection ea_ with ea_;subst ea_));subst ec_;clear en_));have GB10 := aM_ gb10;have GG10 := aM_ HG10;clear gb10 gl10 HG10;obtain ⟨hx10_0,hf10_0⟩ := Kd.R_celln 0 HO270.out (a2 : Int) p10 q10;replace p10 := eq_true p10;replace q10 := eq_true q10;obtain ⟨hy23_,hz23_⟩ := Kd.R_celln 0 HO270.out (a2 : Int) (of_decide_eq_true (by first | (with_reducible assumption) | assumption)) (of_decide_eq_true (by first | (with_reducible assumption) | assumption));have HP23 := Kd.R_putg HO270.out (a2 : Int) ((rd_L4 l0_0 a2).length : Int)) | ((with_reducible refine gate_store (t := 3) (p := 25) rfl ?_);refine store_event (t := 3) (p := 25) (v := ?vo_w24) (w1 := (w20.setCell ⟨go10,(a2 : Int).toNat,none⟩ (.int .i64 ((rd_L4 l0_0 a2).length : Int)))) ?hg ?ho ?hn ?hr ?_;(case ho => rfl);(case hg => rfl);(case hn => rfl);(case hr => first | (go_simp;done) | (go_simp;rfl));intro w24 hw;have hg : w20.grownBy w24 (some go10) := (by rw [hw];exact HP23.2);have hp_ : Kd.R (Kd.int .i64) 3 w24 w.heap.size (fun k_ => (w.heap.size ≤ k_)) (.slice (some ⟨go10,0,none⟩) y268.length co10) y272 := (by rw [hw,Ny272.out];exact HP23.1);clear HP23;have n0 := aM_ (Kd.V_afterv (v := (.slice (some ⟨go10,0,none⟩) y268.length co10)) (v1 := (.slice (some ⟨go10,0,none⟩) y268.length co10)) (ok := (fun k_ => (P0_0_ k_ ∨ w.heap.size ≤ k_) ∧ k_ ≠ gb263 ∧ k_ ≠ gb264)) (by (with_reducible repeat (first | apply Kd.V_alloc | apply Kd.V_drewN | apply Kd.V_drew));exact HO0_0.out) hg (.inl rfl));have n1 := aM_ (blk_grown (g := gb263) (o := .cells #[.slice (some ad271) l0_0.length c0_0] 24 (0,0)) (by (with_reducible repeat (first | refine bN_ ?_ _ | refine bD_ ?_ | refine bA_ ?_ _));exact BK263.out) hg (Kd.R_ne HO270.out BK263.out (by decide)));have n2 := aM_ (blk_grown (g := gb264) (o := .cells #[.slice none 0 0] 24 (0,0)) (by (with_reducible repeat (first | refine bN_ ?_ _ | refine bD_ ?_ | refine bA_ ?_ _));exact BK264.out) hg (Kd.R_ne HO270.out BK264.out (by decide)));have n3 := aM_ (hp_);have n4 := aM_ (Kd.V_afterv (v := (.slice (some ⟨go10,0,none⟩) y268.length co10)) (v1 := (.slice (some ⟨go10,0,none⟩) y268.length co10)) (ok := (fun k_ => (P0_0_ k_ ∨ w.heap.size ≤ k_) ∧ k_ ≠ gb263 ∧ k_ ≠ gb264)) (by (with_reducible repeat (first | apply Kd.V_alloc | apply Kd.V_drewN | apply Kd.V_drew));exact HL271_0.out) hg (.inl rfl));have n5 := aM_ ((by rw [hw];exact below_set (HB.out) GB10.out : Below w.heap.size w w24));clear HO0_0;clear BK263;clear BK264;clear HO270;clear HL271_0;clear HB;have HO0_0 := n0;have BK263 := n1;have BK264 := n2;have HO270 := n3;have HL271_0 := n4;have HB := n5;clear n0 n1 n2 n3 n4 n5;clear hg hw hp_) | ((with_reducible refine gate_dst (N := 27) rfl ?_);refine Kd.R_make (Kd.int .i64) _ 3 rfl (N := 27) rfl 31 _ _ rfl 24 rfl rfl Try.underlying31 (.int .i64 0) 8 info3 rfl (by decide) (by omega) 0 (ok := fun _ => True) (okp := fun _ => True) rfl (fun _ hk => hk) trivial (by omega) (by omega) (Below.refl _ _) (Nat.le_refl _) ?_;intro v274 w25 ho26 hb hg_ hnew_;clear hg_ hnew_;(first | rw [← Ny273.out] at ho26 | (simp only [Int.reduceToNat] at ho26;rw [← Ny273.out] at ho26));have n0 := aM_ (Kd.V_elder' (by (with_reducible repeat (first | apply Kd.V_alloc | apply Kd.V_drewN | apply Kd.V_drew));exact HO0_0.out) (Kd.R_base ho26) hb);have n1 := aM_ (Kd.R_elder' (by (with_reducible repeat (first | apply rA_ | apply rN_ | apply rD_));exact HO270.out) (Kd.R_base ho26) hb);have n2 := aM_ (Kd.V_elder' (by (with_reducible repeat (first | apply Kd.V_alloc | apply Kd.V_drewN | apply Kd.V_drew));exact HL271_0.out) (Kd.R_base ho26) hb);have n3 := aM_ (Kd.R_lower (Kd.R_new' (Kd.R_newM (M := fun k_ => (w.heap.size ≤ k_)) ho26 (below_size (gB_ HB.out)) (fun k_ h_ => h_)) (Kd.R_lt (by (with_reducible repeat (first | apply rA_ | apply rN_ | apply rD_));exact HO270.out))) (below_size (gB_ HB.out)));have n4 := aM_ (nB_ BK263.out hb);have n5 := aM_ (nB_ BK264.out hb);have n6 := aM_ (sT_ HB.out hb);clear HO0_0;clear HO270;clear HL271_0;clear BK263;clear BK264;clear HB;have HO0_0 := n0;have HO270 := n1;have HL271_0 := n2;have HO275 := n3;have BK263 := n4;have BK264 := n5;have HB := n6;clear n0 n1 n2 n3 n4 n5 n6;clear hb ho26;obtain ⟨Ao27,co27,eo27⟩ := Kd.R_slice HO275.out;subst eo27) | ((with_reducible refine gate_dst (N := 13) rfl ?_);refine bX_ 13 (cs := #[.int .i64 0,.slice none 0 0]) (t := 43) ?_;intro gb276 hg w28 hbox hb;have n0 := aM_ (Kd.V_below (Kd.V_elderB (by (with_reducible repeat (first | apply Kd.V_alloc | apply Kd.V_drewN | apply Kd.V_drew));exact HO0_0.out) gb276 (Nat.le_of_eq hg.symm)) hb);have n1 := aM_ (bR_ HO270.out hb);have n2 := aM_ (Kd.V_below (Kd.V_elderB (by (with_reducible repeat (first | apply Kd.V_alloc | apply Kd.V_drewN | apply Kd.V_drew));exact HL271_0.out) gb276 (Nat.le_of_eq hg.symm)) hb);have n3 := aM_ (bR_ HO275.out hb);have n4 := aM_ (nB_ BK263.out hb);have n5 := aM_ (nB_ BK264.out hb);have n6 := aM_ (sT_ HB.out hb);have n7 := aM_ (hbox);have n8 := aM_ (sZ_ hg HB.out);have n9 := aM_ (sZ_ hg HB.out);have n10 := aM_ (nL_ hg BK263.out);have n11 := aM_ (nG_ hg BK263.out);have n12 := aM_ (nL_ hg BK264.out);have n13 := aM_ (nG_ hg BK264.out);clear HO0_0;clear HO270;clear HL271_0;clear HO275;clear BK263;clear BK264;clear HB;have HO0_0 := n0;have HO270 := n1;have HL271_0 := n2;have HO275 := n3;have BK263 := n4;have BK264 := n5;have HB := n6;have BK276 := n7;have GW276 := n8;have GE276 := n9;have NB263_276 := n10;have NB276_263 := n11;have NB264_276 := n12;have NB276_264 := n13;clear n0 n1 n2 n3 n4 n5 n6 n7 n8 n9 n10 n11 n12 n13;clear hb hbox hg;have hnb29 := NB276_263.out;have hnc29 := NB263_276.out;have hnb30 := NB276_264.out;have hnc30 := NB264_276.out;obtain ⟨hcz31_0,hcz31_1,hfz31_0,hfz31_1⟩ := bR2_ BK276.out))
         have n0 : Aside0 (Kd.V (Kd.slice 43 k43) 44 ((w28.setCell ⟨gb276,0,none⟩ (.int .i64 a3)).setCell ⟨gb276,1,none⟩ (.slice Ao27 y273.length co27)) w.heap.size (fun k_ => (P0_0_ k_ ∨ w.heap.size ≤ k_) ∧ some k_ ≠ (.slice (some ⟨go10,0,none⟩) y268.length co10 : Value).ownBlock ∧ some k_ ≠ (.slice Ao27 y273.length co27 : Value).ownBlock ∧ k_ ≠ gb263 ∧ k_ ≠ gb264 ∧ k_ ≠ gb276) (.slice (some ad271) l0_0.length c0_0) l0_0) := ⟨by (with_reducible repeat (first | apply Kd.V_alloc | apply Kd.V_drewN | apply Kd.V_drew));exact Kd.V_mono (Kd.V_far (p := ⟨gb276,1,none⟩) (Kd.V_far (p := ⟨gb276,0,none⟩) (Kd.V_mono HO0_0.out (fun k_ hk => (⟨hk,hk.2⟩ : _ ∧ k_ ≠ gb276))) (fun _ hk => hk.2) (.int .i64 a3)) (fun _ hk => hk.2) (.slice Ao27 y273.length co27)) (fun _ hk => ⟨hk.1.1.1.1.1,⟨hk.1.1.1.2,⟨hk.1.1.2,⟨hk.1.1.1.1.2.1,⟨hk.1.1.1.1.2.2,hk.1.2⟩⟩⟩⟩⟩)⟩
         have n1 : Aside0 (Kd.R (Kd.int .i64) 3 ((w28.setCell ⟨gb276,0,none⟩ (.int .i64 a3)).setCell ⟨gb276,1,none⟩ (.slice Ao27 y273.length co27)) w.heap.size (fun k_ => (w.heap.size ≤ k_) ∧ some k_ ≠ (.slice Ao27 y273.length co27 : Value).ownBlock) (.slice (some ⟨go10,0,none⟩) y268.length co10) y272) := ⟨by (with_reducible repeat (first | apply rA_ | apply rN_ | apply rD_));exact Kd.R_mono (Kd.R_far (p := ⟨gb276,1,none⟩) (Kd.R_far (p := ⟨gb276,0,none⟩) (Kd.R_types HO270.out BK276.out (by decide)) (fun _ hk => hk.2) (.int .i64 a3)) (fun _ hk => hk.2) (.slice Ao27 y273.length co27)) (fun _ hk => ⟨hk.1.1,hk.1.2⟩)⟩
         have n2 : Aside0 (Kd.V k43 43 ((w28.setCell ⟨gb276,0,none⟩ (.int .i64 a3)).setCell ⟨gb276,1,none⟩ (.slice Ao27 y273.length co27)) w.heap.size (fun k_ => (P0_0_ k_ ∨ w.heap.size ≤ k_) ∧ some k_ ≠ (.slice (some ⟨go10,0,none⟩) y268.length co10 : Value).ownBlock ∧ some k_ ≠ (.slice Ao27 y273.length co27 : Value).ownBlock ∧ k_ ≠ gb263 ∧ k_ ≠ gb264 ∧ k_ ≠ gb276) (.slice A271_0 (rd_L4 l0_0 a2).length c271_0) (rd_L4 l0_0 a2)) := ⟨by (with_reducible repeat (first | apply Kd.V_alloc | apply Kd.V_drewN | apply Kd.V_drew));exact Kd.V_mono (Kd.V_far (p := ⟨gb276,1,none⟩) (Kd.V_far (p := ⟨gb276,0,none⟩) (Kd.V_mono HL271_0.out (fun k_ hk => (⟨hk,hk.2⟩ : _ ∧ k_ ≠ gb276))) (fun _ hk => hk.2) (.int .i64 a3)) (fun _ hk => hk.2) (.slice Ao27 y273.length co27)) (fun _ hk => ⟨hk.1.1.1.1.1,⟨hk.1.1.1.2,⟨hk.1.1.2,⟨hk.1.1.1.1.2.1,⟨hk.1.1.1.1.2.2,hk.1.2⟩⟩⟩⟩⟩)⟩
         have n3 : Aside0 (Kd.R (Kd.int .i64) 3 ((w28.setCell ⟨gb276,0,none⟩ (.int .i64 a3)).setCell ⟨gb276,1,none⟩ (.slice Ao27 y273.length co27)) w.heap.size (fun k_ => (w.heap.size ≤ k_) ∧ some k_ ≠ (.slice (some ⟨go10,0,none⟩) y268.length co10 : Value).ownBlock) (.slice Ao27 y273.length co27) y273) := ⟨by (with_reducible repeat (first | apply rA_ | apply rN_ | apply rD_));exact Kd.R_mono (Kd.R_far (p := ⟨gb276,1,none⟩) (Kd.R_far (p := ⟨gb276,0,none⟩) (Kd.R_types HO275.out BK276.out (by decide)) (fun _ hk => hk.2) (.int .i64 a3)) (fun _ hk => hk.2) (.slice Ao27 y273.length co27)) (fun _ hk => ⟨hk.1.1.1,hk.1.2⟩)⟩
         have n4 : Aside0 (((w28.setCell ⟨gb276,0,none⟩ (.int .i64 a3)).setCell ⟨gb276,1,none⟩ (.slice Ao27 y273.length co27)).heap[gb263]? = some (.cells #[.slice (some ad271) l0_0.length c0_0] 24 (0,0))) := ⟨by (with_reducible repeat (first | refine bN_ ?_ _ | refine bD_ ?_ | refine bA_ ?_ _));refine blk_far ?_ NB263_276.out _;(with_reducible repeat (first | refine bN_ ?_ _ | refine bD_ ?_ | refine bA_ ?_ _));refine blk_far ?_ NB263_276.out _;(with_reducible repeat (first | refine bN_ ?_ _ | refine bD_ ?_ | refine bA_ ?_ _));exact BK263.out⟩
         have n5 : Aside0 (((w28.setCell ⟨gb276,0,none⟩ (.int .i64 a3)).setCell ⟨gb276,1,none⟩ (.slice Ao27 y273.length co27)).heap[gb264]? = some (.cells #[.slice none 0 0] 24 (0,0))) := ⟨by (with_reducible repeat (first | refine bN_ ?_ _ | refine bD_ ?_ | refine bA_ ?_ _));refine blk_far ?_ NB264_276.out _;(with_reducible repeat (first | refine bN_ ?_ _ | refine bD_ ?_ | refine bA_ ?_ _));refine blk_far ?_ NB264_276.out _;(with_reducible repeat (first | refine bN_ ?_ _ | refine bD_ ?_ | refine bA_ ?_ _));exact BK264.out⟩
         have n6 : Aside0 (((w28.setCell ⟨gb276,0,none⟩ (.int .i64 a3)).setCell ⟨gb276,1,none⟩ (.slice Ao27 y273.length co27)).heap[gb276]? = some (.cells #[.int .i64 a3,.slice Ao27 y273.length co27] 43 (0,0))) := ⟨by (with_reducible repeat (first | refine bN_ ?_ _ | refine bD_ ?_ | refine bA_ ?_ _));refine blk_put (cs := #[.int .i64 a3,.slice none 0 0]) ?_ 1 _ rfl;refine blk_put (cs := #[.int .i64 0,.slice none 0 0]) ?_ 0 _ rfl;(with_reducible repeat (first | refine bN_ ?_ _ | refine bD_ ?_ | refine bA_ ?_ _));exact BK276.out⟩
         have n7 : Aside0 (Below w.heap.size w ((w28.setCell ⟨gb276,0,none⟩ (.int .i64 a3)).setCell ⟨gb276,1,none⟩ (.slice Ao27 y273.length co27))) := ⟨gW_ HB.out⟩
         (try clear HO0_0)
         (try clear HO270)
         (try clear HL271_0)
         (try clear HO275)
         (try clear BK263)
         (try clear BK264)
         (try clear BK276)
         (try clear HB)
         generalize ((w28.setCell ⟨gb276,0,none⟩ (.int .i64 a3)).setCell ⟨gb276,1,none⟩ (.slice Ao27 y273.length co27)) = w32 at n0 n1 n2 n3 n4 n5 n6 n7 ⊢
         have HO0_0 := n0
         have HO270 := n1
         have HL271_0 := n2
         have HO275 := n3
         have BK263 := n4
         have BK264 := n5
         have BK276 := n6
         have HB := n7
         clear n0 n1 n2 n3 n4 n5 n6 n7
         have n0 := aM_ (Kd.V_drew HO0_0.out)
         have n1 := aM_ (Kd.R_drew HO270.out)
         have n2 := aM_ (Kd.V_drew HL271_0.out)
         have n3 := aM_ (Kd.R_drew HO275.out)
         have n4 := aM_ (blk_drew BK263.out)
         have n5 := aM_ (blk_drew BK264.out)
         have n6 := aM_ (blk_drew BK276.out)
         have n7 := aM_ (below_drew1 HB.out)
         clear HO0_0
         clear HO270
         clear HL271_0
         clear HO275
         clear BK263
         clear BK264
         clear BK276
         clear HB
         have HO0_0 := n0
         have HO270 := n1
         have HL271_0 := n2
         have HO275 := n3
         have BK263 := n4
         have BK264 := n5
         have BK276 := n6
         have HB := n7
         clear n0 n1 n2 n3 n4 n5 n6 n7
         have p277 : 0 ≤ (a2 : Int) := of_decide_eq_true (by first | (with_reducible assumption) | assumption)
         have q277 : a2 < (y272.length : Int) := (by have h_ : (a2 : Int) < ((y268.length : Int) : Int) := of_decide_eq_true (by first | (with_reducible assumption) | assumption);first | (have e_ := (Kd.R_reads' HO270.out).1;omega) | simpa only [Ny272.out,List.length_set] using h_)
         have ql277 : ((a2 : Int) < ((y268.length : Int) : Int)) = True := eq_true (of_decide_eq_true (by first | (with_reducible assumption) | assumption))
         obtain ⟨ad277,e277,hx277_0⟩ := Kd.at_int (Kd.R_reads' HO270.out).2.2 a2 p277 q277
         obtain rfl : (⟨go10,0,none⟩ : Addr) = ad277 := (by injection e277)
         (first | simp only [add_plain] at hx277_0 | simp only [add_at] at hx277_0 | simp only [Addr.add,Nat.zero_add] at hx277_0 | skip)
         replace p277 := eq_true p277
         replace q277 := eq_true q277
         have p13 : 0 ≤ (a2 : Int) := of_decide_eq_true (by first | (with_reducible assumption) | assumption)
         have q13 : (a2 : Int) < ((y273.length : Int) : Int) := of_decide_eq_true (by first | (with_reducible assumption) | assumption)
         obtain ⟨go13,co13,eo13,gb13,gl13,cl13,HG13⟩ := Kd.R_form HO275.out (by omega)
         (first | cases eo13 | (injection eo13 with ea_ en_ ec_;(first | subst ea_ | (injection ea_ with ea_;subst ea_));subst ec_;clear en_))
         have GB13 := aM_ gb13
         have GG13 := aM_ HG13
         clear gb13 gl13 HG13
         obtain ⟨hx13_0,hf13_0⟩ := Kd.R_celln 0 HO275.out (a2 : Int) p13 q13
         replace p13 := eq_true p13
         replace q13 := eq_true q13
         have HP34 := Kd.R_putn HO275.out (a2 : Int) (rd y272 a2)
         rw [← Ny278.out] at HP34
         have HQ34 := aM_ HP34
         clear HP34
         refine start_ (n := 9) (S := fun w' => w'.cell? ⟨gb276,0,none⟩ = some (.int .i64 a3) ∧ w'.cell? ⟨gb276,1,none⟩ = some (.slice (some ⟨go13,0,none⟩) y273.length co27) ∧ w'.cell? ⟨go10,(a2).toNat,none⟩ = some (.int .i64 (rd y272 a2))) (ds := [8]) #[false,false,false,false,false,false,false,false,false] (by kernel_rfl) rfl rfl ⟨(blk_cell BK276.out 0).trans rfl,(blk_cell BK276.out 1).trans rfl,hx277_0⟩ (fun hHeld => ?_);refine with_tabW spec_l6Store.tab4 spec_l6Store.bits4 (fun HT_ HW_ => ?_)
         generalize w32.drew = w33 at HO0_0 HO270 HL271_0 HO275 BK263 BK264 BK276 HB GG13 HQ34 hf13_0 hx13_0 hx277_0 hHeld ⊢
         refine pU_ 0 (some 29) (mk_ 9 1) ?_
         refine pU_ 2 (some 31) (mk_ 9 5) ?_
         refine pU_ 3 (some 32) (mk_ 9 13) ?_
         refine pU_ 4 (some 33) (mk_ 9 29) ?_
         refine pU_ 5 (some 34) (mk_ 9 61) ?_
         refine tK3_ 1 (some 30) (mk_ 9 63) ?_
         refine tK3_ 6 (some 35) (mk_ 9 127) ?_
         refine pU_ 7 (some 36) (mk_ 9 255) ?_
         refine last_ (i := 8) (N := none) #[true,true,true,true,true,true,true,true,true] rfl rfl (one_of HT_.out (by kernel_rfl)) (by decide) (fun K hK => ?_)
         refine skip_ (w1 := ?_) (by rfl) rfl ?_ ?_
         rotate_left
         ·go_simp
          rfl
         refine hK.out _ _ ?_
         clear hK K
         refine done_ (done_of HT_.out (by kernel_rfl)) ?_
         have n0 : Aside0 (Kd.V (Kd.slice 43 k43) 44 (w33.setCell ⟨go13,(a2 : Int).toNat,none⟩ (.int .i64 (rd y272 a2))) w.heap.size (fun k_ => (P0_0_ k_ ∨ w.heap.size ≤ k_) ∧ some k_ ≠ (.slice (some ⟨go10,0,none⟩) y268.length co10 : Value).ownBlock ∧ some k_ ≠ (.slice (some ⟨go13,0,none⟩) y273.length co27 : Value).ownBlock ∧ k_ ≠ gb263 ∧ k_ ≠ gb264 ∧ k_ ≠ gb276) (.slice (some ad271) l0_0.length c0_0) l0_0) := ⟨by (with_reducible repeat (first | apply Kd.V_alloc | apply Kd.V_drewN | apply Kd.V_drew));exact Kd.V_mono (Kd.V_far (p := ⟨go13,(a2 : Int).toNat,none⟩) (Kd.V_mono HO0_0.out (fun k_ hk => (⟨hk,fun e_ => hk.2.2.1 (by rw [e_];rfl)⟩ : _ ∧ k_ ≠ go13))) (fun _ hk => hk.2) (.int .i64 (rd y272 a2))) (fun _ hk => ⟨hk.1.1,⟨hk.1.2.1,⟨hk.1.2.2.1,⟨hk.1.2.2.2.1,⟨hk.1.2.2.2.2.1,hk.1.2.2.2.2.2⟩⟩⟩⟩⟩)⟩
         have n1 : Aside0 (Kd.R (Kd.int .i64) 3 (w33.setCell ⟨go13,(a2 : Int).toNat,none⟩ (.int .i64 (rd y272 a2))) w.heap.size (fun k_ => (w.heap.size ≤ k_) ∧ some k_ ≠ (.slice (some ⟨go13,0,none⟩) y273.length co27 : Value).ownBlock) (.slice (some ⟨go10,0,none⟩) y268.length co10) y272) := ⟨by (with_reducible repeat (first | apply rA_ | apply rN_ | apply rD_));exact Kd.R_mono (Kd.R_far (p := ⟨go13,(a2 : Int).toNat,none⟩) (Kd.R_mono HO270.out (fun k_ hk => (⟨hk,fun e_ => hk.2 (by rw [e_];rfl)⟩ : _ ∧ k_ ≠ go13))) (fun _ hk => hk.2) (.int .i64 (rd y272 a2))) (fun _ hk => ⟨hk.1.1,hk.1.2⟩)⟩
         have n2 : Aside0 (Kd.V k43 43 (w33.setCell ⟨go13,(a2 : Int).toNat,none⟩ (.int .i64 (rd y272 a2))) w.heap.size (fun k_ => (P0_0_ k_ ∨ w.heap.size ≤ k_) ∧ some k_ ≠ (.slice (some ⟨go10,0,none⟩) y268.length co10 : Value).ownBlock ∧ some k_ ≠ (.slice (some ⟨go13,0,none⟩) y273.length co27 : Value).ownBlock ∧ k_ ≠ gb263 ∧ k_ ≠ gb264 ∧ k_ ≠ gb276) (.slice A271_0 (rd_L4 l0_0 a2).length c271_0) (rd_L4 l0_0 a2)) := ⟨by (with_reducible repeat (first | apply Kd.V_alloc | apply Kd.V_drewN | apply Kd.V_drew));exact Kd.V_mono (Kd.V_far (p := ⟨go13,(a2 : Int).toNat,none⟩) (Kd.V_mono HL271_0.out (fun k_ hk => (⟨hk,fun e_ => hk.2.2.1 (by rw [e_];rfl)⟩ : _ ∧ k_ ≠ go13))) (fun _ hk => hk.2) (.int .i64 (rd y272 a2))) (fun _ hk => ⟨hk.1.1,⟨hk.1.2.1,⟨hk.1.2.2.1,⟨hk.1.2.2.2.1,⟨hk.1.2.2.2.2.1,hk.1.2.2.2.2.2⟩⟩⟩⟩⟩)⟩
         have n3 : Aside0 (Kd.R (Kd.int .i64) 3 (w33.setCell ⟨go13,(a2 : Int).toNat,none⟩ (.int .i64 (rd y272 a2))) w.heap.size (fun k_ => (w.heap.size ≤ k_) ∧ some k_ ≠ (.slice (some ⟨go10,0,none⟩) y268.length co10 : Value).ownBlock) (.slice (some ⟨go13,0,none⟩) y273.length co27) y278) := ⟨by (with_reducible repeat (first | apply rA_ | apply rN_ | apply rD_));exact HQ34.out⟩
         have n4 : Aside0 ((w33.setCell ⟨go13,(a2 : Int).toNat,none⟩ (.int .i64 (rd y272 a2))).heap[gb263]? = some (.cells #[.slice (some ad271) l0_0.length c0_0] 24 (0,0))) := ⟨by (with_reducible repeat (first | refine bN_ ?_ _ | refine bD_ ?_ | refine bA_ ?_ _));refine blk_far ?_ (by have h_ := Kd.R_ne HO275.out BK263.out (by decide);intro e_;exact h_ (by rw [e_];rfl)) _;(with_reducible repeat (first | refine bN_ ?_ _ | refine bD_ ?_ | refine bA_ ?_ _));exact BK263.out⟩
         have n5 : Aside0 ((w33.setCell ⟨go13,(a2 : Int).toNat,none⟩ (.int .i64 (rd y272 a2))).heap[gb264]? = some (.cells #[.slice none 0 0] 24 (0,0))) := ⟨by (with_reducible repeat (first | refine bN_ ?_ _ | refine bD_ ?_ | refine bA_ ?_ _));refine blk_far ?_ (by have h_ := Kd.R_ne HO275.out BK264.out (by decide);intro e_;exact h_ (by rw [e_];rfl)) _;(with_reducible repeat (first | refine bN_ ?_ _ | refine bD_ ?_ | refine bA_ ?_ _));exact BK264.out⟩
         have n6 : Aside0 ((w33.setCell ⟨go13,(a2 : Int).toNat,none⟩ (.int .i64 (rd y272 a2))).heap[gb276]? = some (.cells #[.int .i64 a3,.slice (some ⟨go13,0,none⟩) y273.length co27] 43 (0,0))) := ⟨by (with_reducible repeat (first | refine bN_ ?_ _ | refine bD_ ?_ | refine bA_ ?_ _));refine blk_far ?_ (by have h_ := Kd.R_ne HO275.out BK276.out (by decide);intro e_;exact h_ (by rw [e_];rfl)) _;(with_reducible repeat (first | refine bN_ ?_ _ | refine bD_ ?_ | refine bA_ ?_ _));exact BK276.out⟩
         have n7 : Aside0 (Below w.heap.size w (w33.setCell ⟨go13,(a2 : Int).toNat,none⟩ (.int .i64 (rd y272 a2)))) := ⟨by repeat (first | (with_reducible first | exact HB.out | apply hA_ | apply hN_ | apply hD_ | refine below_set ?_ GB13.out | refine below_set ?_ GE263.out | refine below_set ?_ GE264.out | refine below_set ?_ GE276.out) | exact HB.out)⟩
         (try clear HO0_0)
         (try clear HO270)
         (try clear HL271_0)
         (try clear HO275)
         (try clear BK263)
         (try clear BK264)
         (try clear BK276)
         (try clear HB)
         generalize (w33.setCell ⟨go13,(a2 : Int).toNat,none⟩ (.int .i64 (rd y272 a2))) = w35 at n0 n1 n2 n3 n4 n5 n6 n7 ⊢
         have HO0_0 := n0
         have HO270 := n1
         have HL271_0 := n2
         have HO275 := n3
         have BK263 := n4
         have BK264 := n5
         have BK276 := n6
         have HB := n7
         clear n0 n1 n2 n3 n4 n5 n6 n7
         try go_wp2_with (first | ((with_reducible refine gate_dst (N := 38) rfl ?_);refine Kd.R_lit (Kd.int .i64) _ 3 ?hg (N := 38) ?hd (xs := ([] : List Int)) (inner := []) (ok := fun _ => True) (okp := fun _ => True) ?hr ?hp (fun _ hk => hk) trivial (Below.refl _ _) (Nat.le_refl _) (by simp) ?_;(case hd => rfl);(case hg => rfl);(case hr => first | (go_simp;done) | (go_simp;rfl));(case hp => exact (Reps.none _ _));intro v280 w36 ho37 hb hg_ hnew_;clear hg_ hnew_;(first | rw [← Ny279.out] at ho37 | (simp only [Int.reduceToNat] at ho37;rw [← Ny279.out] at ho37));have n0 := aM_ (Kd.V_elder' (by (with_reducible repeat (first | apply Kd.V_alloc | apply Kd.V_drewN | apply Kd.V_drew));exact HO0_0.out) (Kd.R_base ho37) hb);have n1 := aM_ (Kd.R_elder' (by (with_reducible repeat (first | apply rA_ | apply rN_ | apply rD_));exact HO270.out) (Kd.R_base ho37) hb);have n2 := aM_ (Kd.V_elder' (by (with_reducible repeat (first | apply Kd.V_alloc | apply Kd.V_drewN | apply Kd.V_drew));exact HL271_0.out) (Kd.R_base ho37) hb);have n3 := aM_ (Kd.R_elder' (by (with_reducible repeat (first | apply rA_ | apply rN_ | apply rD_));exact HO275.out) (Kd.R_base ho37) hb);have n4 := aM_ (Kd.R_lower (Kd.R_new' (Kd.R_new' (Kd.R_newM (M := fun k_ => (w.heap.size ≤ k_)) ho37 (below_size (gB_ HB.out)) (fun k_ h_ => h_)) (Kd.R_lt (by (with_reducible repeat (first | apply rA_ | apply rN_ | apply rD_));exact HO270.out))) (Kd.R_lt (by (with_reducible repeat (first | apply rA_ | apply rN_ | apply rD_));exact HO275.out))) (below_size (gB_ HB.out)));have n5 := aM_ (nB_ BK263.out hb);have n6 := aM_ (nB_ BK264.out hb);have n7 := aM_ (nB_ BK276.out hb);have n8 := aM_ (sT_ HB.out hb);clear HO0_0;clear HO270;clear HL271_0;clear HO275;clear BK263;clear BK264;clear BK276;clear HB;have HO0_0 := n0;have HO270 := n1;have HL271_0 := n2;have HO275 := n3;have HO281 := n4;have BK263 := n5;have BK264 := n6;have BK276 := n7;have HB := n8;clear n0 n1 n2 n3 n4 n5 n6 n7 n8;clear hb ho37) | ((with_reducible refine gate_builtin (b := .append) (xs := #[.tmp 38,.tmp 39]) rfl ?_);at_builtin;refine Kd.R_append_rows (Kd.int .i64) (w0 := w) w.heap.size rfl (.tmp 38) (.tmp 39) 31 3 (.int .i64 0) 8 rfl Try.underlying31 info3 rfl (by decide) (by omega) v280 y279 y272 _ _ _ (fun k_ => (w.heap.size ≤ k_) ∧ some k_ ≠ (.slice (some ⟨go10,0,none⟩) y268.length co10 : Value).ownBlock ∧ some k_ ≠ (.slice (some ⟨go13,0,none⟩) y273.length co27 : Value).ownBlock) (fun _ => False) rfl rfl ?aO ?aR (fun _ _ h => h) (fun _ h => h.elim) ?aF ?aB ?aS ?aL ?_;(case aR => rw [show y268.length = y272.length from (Kd.R_reads' HO270.out).1];repeat (first | exact (Kd.R_reads' HO270.out).2.2 | (with_reducible refine Kd.C_alloc ?_ _) | (with_reducible refine Kd.C_drewN ?_ _) | (with_reducible refine Kd.C_drew ?_)));(case aB => exact (gB_ HB.out));(case aF => exact (fun k_ hk => ⟨(Nat.le_trans (below_size (gB_ HB.out)) hk),Kd.fresh' (Kd.R_lt (by (with_reducible repeat (first | apply rA_ | apply rN_ | apply rD_));exact HO270.out)) k_ hk,Kd.fresh' (Kd.R_lt (by (with_reducible repeat (first | apply rA_ | apply rN_ | apply rD_));exact HO275.out)) k_ hk⟩));(case aO => exact (by (with_reducible repeat (first | apply rA_ | apply rN_ | apply rD_));exact Kd.R_mono HO281.out (fun _ hk => ⟨hk.1.1.1,⟨hk.1.2,hk.2⟩⟩)));(case aS => exact (below_size (gB_ HB.out)));(case aL => have := LMc15.out;have hlx_ := (Kd.R_reads' HO270.out).1;omega);intro v283 w38 ho hb hg hat;rw [← Ny282.out] at ho;have n0 := aM_ (Kd.V_afterv (ok := (fun k_ => (P0_0_ k_ ∨ w.heap.size ≤ k_) ∧ some k_ ≠ (.slice (some ⟨go10,0,none⟩) y268.length co10 : Value).ownBlock ∧ some k_ ≠ (.slice (some ⟨go13,0,none⟩) y273.length co27 : Value).ownBlock ∧ k_ ≠ gb263 ∧ k_ ≠ gb264 ∧ k_ ≠ gb276)) (by (with_reducible repeat (first | apply Kd.V_alloc | apply Kd.V_drewN | apply Kd.V_drew));exact HO0_0.out) hg hat);have n1 := aM_ (blk_grown (g := gb263) (o := .cells #[.slice (some ad271) l0_0.length c0_0] 24 (0,0)) (by (with_reducible repeat (first | refine bN_ ?_ _ | refine bD_ ?_ | refine bA_ ?_ _));exact BK263.out) hg (Kd.R_ne HO281.out BK263.out (by decide)));have n2 := aM_ (blk_grown (g := gb264) (o := .cells #[.slice none 0 0] 24 (0,0)) (by (with_reducible repeat (first | refine bN_ ?_ _ | refine bD_ ?_ | refine bA_ ?_ _));exact BK264.out) hg (Kd.R_ne HO281.out BK264.out (by decide)));have n3 := aM_ (Kd.R_after (ok := (fun k_ => (w.heap.size ≤ k_) ∧ some k_ ≠ (.slice (some ⟨go13,0,none⟩) y273.length co27 : Value).ownBlock)) (by (with_reducible repeat (first | apply rA_ | apply rN_ | apply rD_));exact HO270.out) hg hat);have n4 := aM_ (Kd.V_afterv (ok := (fun k_ => (P0_0_ k_ ∨ w.heap.size ≤ k_) ∧ some k_ ≠ (.slice (some ⟨go10,0,none⟩) y268.length co10 : Value).ownBlock ∧ some k_ ≠ (.slice (some ⟨go13,0,none⟩) y273.length co27 : Value).ownBlock ∧ k_ ≠ gb263 ∧ k_ ≠ gb264 ∧ k_ ≠ gb276)) (by (with_reducible repeat (first | apply Kd.V_alloc | apply Kd.V_drewN | apply Kd.V_drew));exact HL271_0.out) hg hat);have n5 := aM_ (Kd.R_after (ok := (fun k_ => (w.heap.size ≤ k_) ∧ some k_ ≠ (.slice (some ⟨go10,0,none⟩) y268.length co10 : Value).ownBlock)) (by (with_reducible repeat (first | apply rA_ | apply rN_ | apply rD_));exact HO275.out) hg hat);have n6 := aM_ (blk_grown (g := gb276) (o := .cells #[.int .i64 a3,.slice (some ⟨go13,0,none⟩) y273.length co27] 43 (0,0)) (by (with_reducible repeat (first | refine bN_ ?_ _ | refine bD_ ?_ | refine bA_ ?_ _));exact BK276.out) hg (Kd.R_ne HO281.out BK276.out (by decide)));have n7 := aM_ (hb);have n8 := aM_ (ho);clear HO0_0;clear BK263;clear BK264;clear HO270;clear HL271_0;clear HO275;clear BK276;clear HB;clear HO281;have HO0_0 := n0;have BK263 := n1;have BK264 := n2;have HO270 := n3;have HL271_0 := n4;have HO275 := n5;have BK276 := n6;have HB := n7;have HO284 := n8;clear n0 n1 n2 n3 n4 n5 n6 n7 n8;clear ho hb hg hat;obtain ⟨Ao39,co39,eo39⟩ := Kd.R_slice HO284.out;subst eo39;obtain ⟨hcz40_0,hcz40_1,hfz40_0,hfz40_1⟩ := bR2_ BK276.out))
         have n0 : Aside0 (Kd.V (Kd.slice 43 k43) 44 (w38.setCell ⟨gb276,1,none⟩ (.slice Ao39 y282.length co39)) w.heap.size (fun k_ => (P0_0_ k_ ∨ w.heap.size ≤ k_) ∧ some k_ ≠ (.slice (some ⟨go10,0,none⟩) y268.length co10 : Value).ownBlock ∧ some k_ ≠ (.slice (some ⟨go13,0,none⟩) y273.length co27 : Value).ownBlock ∧ some k_ ≠ (.slice Ao39 y282.length co39 : Value).ownBlock ∧ k_ ≠ gb263 ∧ k_ ≠ gb264 ∧ k_ ≠ gb276) (.slice (some ad271) l0_0.length c0_0) l0_0) := ⟨by (with_reducible repeat (first | apply Kd.V_alloc | apply Kd.V_drewN | apply Kd.V_drew));exact Kd.V_mono (Kd.V_far (p := ⟨gb276,1,none⟩) (Kd.V_mono HO0_0.out (fun k_ hk => (⟨hk,hk.1.2.2.2.2.2⟩ : _ ∧ k_ ≠ gb276))) (fun _ hk => hk.2) (.slice Ao39 y282.length co39)) (fun _ hk => ⟨hk.1.1.1,⟨hk.1.1.2.1,⟨hk.1.1.2.2.1,⟨hk.1.2,⟨hk.1.1.2.2.2.1,⟨hk.1.1.2.2.2.2.1,hk.1.1.2.2.2.2.2⟩⟩⟩⟩⟩⟩)⟩
         have n1 : Aside0 (Kd.R (Kd.int .i64) 3 (w38.setCell ⟨gb276,1,none⟩ (.slice Ao39 y282.length co39)) w.heap.size (fun k_ => (w.heap.size ≤ k_) ∧ some k_ ≠ (.slice (some ⟨go13,0,none⟩) y273.length co27 : Value).ownBlock ∧ some k_ ≠ (.slice Ao39 y282.length co39 : Value).ownBlock) (.slice (some ⟨go10,0,none⟩) y268.length co10) y272) := ⟨by (with_reducible repeat (first | apply rA_ | apply rN_ | apply rD_));exact Kd.R_mono (Kd.R_far (p := ⟨gb276,1,none⟩) (Kd.R_types HO270.out BK276.out (by decide)) (fun _ hk => hk.2) (.slice Ao39 y282.length co39)) (fun _ hk => ⟨hk.1.1.1,⟨hk.1.1.2,hk.1.2⟩⟩)⟩
         have n2 : Aside0 (Kd.V k43 43 (w38.setCell ⟨gb276,1,none⟩ (.slice Ao39 y282.length co39)) w.heap.size (fun k_ => (P0_0_ k_ ∨ w.heap.size ≤ k_) ∧ some k_ ≠ (.slice (some ⟨go10,0,none⟩) y268.length co10 : Value).ownBlock ∧ some k_ ≠ (.slice (some ⟨go13,0,none⟩) y273.length co27 : Value).ownBlock ∧ some k_ ≠ (.slice Ao39 y282.length co39 : Value).ownBlock ∧ k_ ≠ gb263 ∧ k_ ≠ gb264 ∧ k_ ≠ gb276) (.slice A271_0 (rd_L4 l0_0 a2).length c271_0) (rd_L4 l0_0 a2)) := ⟨by (with_reducible repeat (first | apply Kd.V_alloc | apply Kd.V_drewN | apply Kd.V_drew));exact Kd.V_mono (Kd.V_far (p := ⟨gb276,1,none⟩) (Kd.V_mono HL271_0.out (fun k_ hk => (⟨hk,hk.1.2.2.2.2.2⟩ : _ ∧ k_ ≠ gb276))) (fun _ hk => hk.2) (.slice Ao39 y282.length co39)) (fun _ hk => ⟨hk.1.1.1,⟨hk.1.1.2.1,⟨hk.1.1.2.2.1,⟨hk.1.2,⟨hk.1.1.2.2.2.1,⟨hk.1.1.2.2.2.2.1,hk.1.1.2.2.2.2.2⟩⟩⟩⟩⟩⟩)⟩
         have n3 : Aside0 (Kd.R (Kd.int .i64) 3 (w38.setCell ⟨gb276,1,none⟩ (.slice Ao39 y282.length co39)) w.heap.size (fun k_ => (w.heap.size ≤ k_) ∧ some k_ ≠ (.slice (some ⟨go10,0,none⟩) y268.length co10 : Value).ownBlock ∧ some k_ ≠ (.slice Ao39 y282.length co39 : Value).ownBlock) (.slice (some ⟨go13,0,none⟩) y273.length co27) y278) := ⟨by (with_reducible repeat (first | apply rA_ | apply rN_ | apply rD_));exact Kd.R_mono (Kd.R_far (p := ⟨gb276,1,none⟩) (Kd.R_types HO275.out BK276.out (by decide)) (fun _ hk => hk.2) (.slice Ao39 y282.length co39)) (fun _ hk => ⟨hk.1.1.1,⟨hk.1.1.2,hk.1.2⟩⟩)⟩
         have n4 : Aside0 (Kd.R (Kd.int .i64) 3 (w38.setCell ⟨gb276,1,none⟩ (.slice Ao39 y282.length co39)) w.heap.size (fun k_ => (w.heap.size ≤ k_) ∧ some k_ ≠ (.slice (some ⟨go10,0,none⟩) y268.length co10 : Value).ownBlock ∧ some k_ ≠ (.slice (some ⟨go13,0,none⟩) y273.length co27 : Value).ownBlock) (.slice Ao39 y282.length co39) y282) := ⟨by (with_reducible repeat (first | apply rA_ | apply rN_ | apply rD_));exact Kd.R_mono (Kd.R_far (p := ⟨gb276,1,none⟩) (Kd.R_types HO284.out BK276.out (by decide)) (fun _ hk => hk.2) (.slice Ao39 y282.length co39)) (fun _ hk => ⟨hk.1.1,⟨hk.1.2.1,hk.1.2.2⟩⟩)⟩
         have n5 : Aside0 ((w38.setCell ⟨gb276,1,none⟩ (.slice Ao39 y282.length co39)).heap[gb263]? = some (.cells #[.slice (some ad271) l0_0.length c0_0] 24 (0,0))) := ⟨by (with_reducible repeat (first | refine bN_ ?_ _ | refine bD_ ?_ | refine bA_ ?_ _));refine blk_far ?_ NB263_276.out _;(with_reducible repeat (first | refine bN_ ?_ _ | refine bD_ ?_ | refine bA_ ?_ _));exact BK263.out⟩
         have n6 : Aside0 ((w38.setCell ⟨gb276,1,none⟩ (.slice Ao39 y282.length co39)).heap[gb264]? = some (.cells #[.slice none 0 0] 24 (0,0))) := ⟨by (with_reducible repeat (first | refine bN_ ?_ _ | refine bD_ ?_ | refine bA_ ?_ _));refine blk_far ?_ NB264_276.out _;(with_reducible repeat (first | refine bN_ ?_ _ | refine bD_ ?_ | refine bA_ ?_ _));exact BK264.out⟩
         have n7 : Aside0 ((w38.setCell ⟨gb276,1,none⟩ (.slice Ao39 y282.length co39)).heap[gb276]? = some (.cells #[.int .i64 a3,.slice Ao39 y282.length co39] 43 (0,0))) := ⟨by (with_reducible repeat (first | refine bN_ ?_ _ | refine bD_ ?_ | refine bA_ ?_ _));refine blk_put (cs := #[.int .i64 a3,.slice (some ⟨go13,0,none⟩) y273.length co27]) ?_ 1 _ rfl;(with_reducible repeat (first | refine bN_ ?_ _ | refine bD_ ?_ | refine bA_ ?_ _));exact BK276.out⟩
         have n8 : Aside0 (Below w.heap.size w (w38.setCell ⟨gb276,1,none⟩ (.slice Ao39 y282.length co39))) := ⟨gW_ HB.out⟩
         (try clear HO0_0)
         (try clear HO270)
         (try clear HL271_0)
         (try clear HO275)
         (try clear HO284)
         (try clear BK263)
         (try clear BK264)
         (try clear BK276)
         (try clear HB)
         generalize (w38.setCell ⟨gb276,1,none⟩ (.slice Ao39 y282.length co39)) = w41 at n0 n1 n2 n3 n4 n5 n6 n7 n8 ⊢
         have HO0_0 := n0
         have HO270 := n1
         have HL271_0 := n2
         have HO275 := n3
         have HO284 := n4
         have BK263 := n5
         have BK264 := n6
         have BK276 := n7
         have HB := n8
         clear n0 n1 n2 n3 n4 n5 n6 n7 n8
         have n0 := aM_ (Kd.V_drew HO0_0.out)
         have n1 := aM_ (Kd.R_drew HO270.out)
         have n2 := aM_ (Kd.V_drew HL271_0.out)
         have n3 := aM_ (Kd.R_drew HO275.out)
         have n4 := aM_ (Kd.R_drew HO284.out)
         have n5 := aM_ (blk_drew BK263.out)
         have n6 := aM_ (blk_drew BK264.out)
         have n7 := aM_ (blk_drew BK276.out)
         have n8 := aM_ (below_drew1 HB.out)
         clear HO0_0
         clear HO270
         clear HL271_0
         clear HO275
         clear HO284
         clear BK263
         clear BK264
         clear BK276
         clear HB
         have HO0_0 := n0
         have HO270 := n1
         have HL271_0 := n2
         have HO275 := n3
         have HO284 := n4
         have BK263 := n5
         have BK264 := n6
         have BK276 := n7
         have HB := n8
         clear n0 n1 n2 n3 n4 n5 n6 n7 n8
         have hbs_ := below_size HB.out
         have HSm := aM_ (Kd.S_old hS.out HB.out)
         have hp_ : 0 ≤ a2 := of_decide_eq_true c7b0
         have hq_ : a2 < (l0_0.length : Int) := of_decide_eq_true c8b0
         obtain ⟨gM,rfl⟩ := Kd.R_head (Kd.S_R HSm.out)
         obtain ⟨oki,Ae,ce,hSe,hcM,hoki,⟨cellsM,hBM⟩,hback⟩ := S_push HSm.out a2 hp_ hq_
         have HSe := aM_ hSe
         have BKM := aM_ hBM
         have hkM := aM_ ((blk_cell hBM (a2).toNat).symm.trans hcM)
         have HBK := aM_ hback
         have HOK := aM_ hoki
         have HGM : Aside0 (gM < w.heap.size) := ⟨((Kd.S_R HSm.out).1 gM rfl).2⟩
         have HRW : Aside0 (∀ k,(Value.slice Ae (rd_L4 l0_0 a2).length ce).ownBlock = some k → P0_0_ k ∧ k < w.heap.size) := ⟨fun k hk => (hoki k ((Kd.S_R hSe).1 k hk)).1⟩
         clear hSe hBM hcM hback hoki hp_ hq_
         refine start_ (n := 13) (S := fun w' => w'.cell? ⟨gb263,0,none⟩ = some (.slice (some ⟨gM,0,none⟩) l0_0.length c0_0) ∧ w'.cell? ⟨gM,(a2).toNat,none⟩ = some (.slice Ae (rd_L4 l0_0 a2).length ce) ∧ w'.cell? ⟨gb276,0,none⟩ = some (.int .i64 a3) ∧ w'.cell? ⟨gb276,1,none⟩ = some (.slice Ao39 y282.length co39)) (ds := [12]) #[false,false,false,false,false,false,false,false,false,false,false,false,false] (by kernel_rfl) rfl rfl ⟨(blk_cell (BK263.out) 0).trans rfl,(blk_cell (BKM.out) _).trans hkM.out,(blk_cell (BK276.out) 0).trans rfl,(blk_cell (BK276.out) 1).trans rfl⟩ (fun hHeld => ?_)
         generalize w41.drew = w42 at HO0_0 HO270 HL271_0 HO275 HO284 BK263 BK264 BK276 HB HSm HSe BKM HBK hbs_ hHeld ⊢
         refine pU_ 0 (some 42) (mk_ 13 1) ?_
         refine pU_ 2 (some 44) (mk_ 13 5) ?_
         refine pU_ 3 (some 45) (mk_ 13 13) ?_
         refine pU_ 5 (some 47) (mk_ 13 45) ?_
         refine tK4_ 1 (some 43) (mk_ 13 47) ?_
         refine tK4_ 4 (some 46) (mk_ 13 63) ?_
         refine pU_ 6 (some 48) (mk_ 13 127) ?_
         refine tK4_ 7 (some 49) (mk_ 13 255) ?_
         refine tK4_ 8 (some 50) (mk_ 13 511) ?_
         refine oN_ 9 (some 51) (mk_ 13 1023) (fun K hK => ?_)
         refine value_ (w1 := ?_) (v := ?_) (by rfl) rfl ?_ ?_
         rotate_left 2
         ·go_simp
          constructor
          ·rfl
          ·rfl
         refine hK.out _ _ ⟨(blk_cell (blk_alloc BK263.out _) 0).trans rfl,(blk_cell (blk_alloc BKM.out _) _).trans hkM.out,(blk_cell (blk_alloc BK276.out _) 0).trans rfl,(blk_cell (blk_alloc BK276.out _) 1).trans rfl⟩ (fun hHeld => ?_)
         clear hK K
         refine norm_ (a' := ?_) ?_ ?_
         rotate_left
         ·show Act.put _ (some 51) _ = _
          simp only [pt_,pn_,sI_,s0_,s1_,i64_w,i32_w]
          rfl
         refine oN_ 10 (some 52) (mk_ 13 2047) (fun K hK => ?_)
         have hT1 := HO284.out.1
         have hT2 : ∀ k,(.slice Ao39 y282.length co39 : Value).ownBlock = some k → w.heap.size ≤ k := Kd.R_base HO284.out
         refine Kd.S_append_step k43 (w0 := w) b0 (by rfl) (.tmp 49) (.tmp 51) 44 43 (.agg #[(.int .i64 0),(.slice none 0 0)]) 32 rfl Try.underlying44 info43 rfl (by decide) (by omega) (.slice Ae (rd_L4 l0_0 a2).length ce) (rd_L4 l0_0 a2) (⟨a3,y282⟩ : S43) [.int .i64 a3,.slice Ao39 y282.length co39] (fun k_ => oki k_ ∨ (w.heap.size ≤ k_ ∧ some k_ ≠ (.slice (some ⟨go10,0,none⟩) y268.length co10 : Value).ownBlock)) (fun k_ => some k_ = (.slice Ao39 y282.length co39 : Value).ownBlock) rfl rfl ?aP ?aK ?aF ?aO ?aB ?aS ?aL ?_
         (case aP => exact k43_mkM _ _ _ (⟨a3,y282⟩ : S43) (Kd.R_mono (Kd.R_tight rfl (Kd.R_lower HO284.out hb0w.out)) (fun _ h_ => h_)))
         (case aK => exact fun k hk => ⟨.inr ⟨hT2 k hk.symm,by have h1 := hT1 k hk.symm;first | exact h1.2.1 | exact h1.2 | exact h1.1 | exact h1.1.2 | exact h1⟩,fun e => absurd (hT2 k hk.symm) (Nat.not_le.2 (HRW.out k e.symm).2)⟩)
         (case aF => exact fun k hk => .inr ⟨Nat.le_trans hbs_ hk,fun e => Nat.not_le.2 (Kd.R_lt HO270.out k e.symm) hk⟩)
         (case aO => exact Kd.S_mono HSe.out (fun k hk => ⟨.inl hk,fun e => absurd (hT2 k e.symm) (Nat.not_le.2 (HOK.out k hk).1.2)⟩))
         (case aB => exact HB.out.mono hb0w.out)
         (case aS => exact Nat.le_trans hb0w.out hbs_)
         (case aL => have := LMcP.out;omega)
         intro vP wP ho hb hg hat
         rw [← NyP.out] at ho
         have hnb : ∀ {g t : Nat} {cs : Array Value},w42.heap[g]? = some (.cells cs t (0,0)) → t ≠ 43 → some g ≠ (Value.slice Ae (rd_L4 l0_0 a2).length ce).ownBlock := fun hb_ ht => Kd.S_ne HSe.out hb_ (Ne.symm ht)
         have HKP : Aside0 (Kept w wP P0_0_) := ⟨Kept.of_grown hg (Kept.of_below HB.out P0_0_) (fun k e => .inl (HRW.out k e).1)⟩
         have BK263n := aM_ (blk_grown BK263.out hg (hnb BK263.out (by decide)))
         have BK264n := aM_ (blk_grown BK264.out hg (hnb BK264.out (by decide)))
         have BKMn := aM_ (blk_grown BKM.out hg (hnb BKM.out (by decide)))
         have BK276n := aM_ (blk_grown BK276.out hg (fun e => absurd GE276.out (Nat.not_le.2 (HRW.out _ e.symm).2)))
         have HO270n := aM_ (Kd.R_mono (Kd.R_grown (Kd.R_bound HO270.out) hg (fun k hk e => absurd hk.2.1 (Nat.not_le.2 (HRW.out k e.symm).2))) (fun _ hk => hk.1))
         clear hT1 hT2 hnb
         clear BK263 BK264 BKM BK276 HO270 HB HSm
         have BK263 := BK263n
         have BK264 := BK264n
         have BKM := BKMn
         have BK276 := BK276n
         have HO270 := HO270n
         clear BK263n BK264n BKMn BK276n HO270n
         obtain ⟨An,cn,rfl⟩ := Kd.S_slice ho
         have HP := aM_ ho
         have HBP : Aside0 (Below b0 w wP) := ⟨hb⟩
         have HG := aM_ hg
         clear ho hb hg hat
         refine hK.out _ _ ⟨(blk_cell (BK263.out) 0).trans rfl,(blk_cell (BKM.out) _).trans hkM.out,(blk_cell (BK276.out) 0).trans rfl,(blk_cell (BK276.out) 1).trans rfl⟩ (fun hHeld => ?_)
         clear hK K
         refine norm_ (a' := ?_) ?_ ?_
         rotate_left
         ·show Act.put _ (some 52) _ = _
          simp only [pt_,pn_,sI_,s0_,s1_,i64_w,i32_w]
          rfl
         refine pU_ 11 (some 53) (mk_ 13 4095) ?_
         refine last_ (i := 12) (N := none) #[true,true,true,true,true,true,true,true,true,true,true,true,true] rfl rfl (by kernel_rfl) (by decide) (fun K hK => ?_)
         have hsM : wP.cell? ⟨gM,(a2).toNat,none⟩ = some (.slice Ae (rd_L4 l0_0 a2).length ce) := (blk_cell BKM.out _).trans hkM.out
         have hfM := blk_frozen BKM.out (a2).toNat
         refine skip_ (w1 := ?_) (by rfl) rfl ?_ ?_
         rotate_left
         ·go_simp
          rfl
         refine hK.out _ _ ?_
         clear hK K
         refine done_ (by kernel_rfl) ?_
         have HSn := aM_ (HBK.out wP (.slice An yP.length cn) yP (fun k_ => w.heap.size ≤ k_ ∧ some k_ ≠ (.slice (some ⟨go10,0,none⟩) y268.length co10 : Value).ownBlock) HG.out HP.out (fun k hk => ⟨fun h => Nat.not_le.2 h.2 hk.1,fun e => absurd (e ▸ hk.1) (Nat.not_le.2 HGM.out)⟩))
         replace BK263 := aM_ (blk_far (p := ⟨gM,(a2).toNat,none⟩) BK263.out (by intro e_;have h_ := BK263.out;rw [show _ = gM from e_,BKM.out] at h_;simp at h_) (.slice An yP.length cn))
         replace BK264 := aM_ (blk_far (p := ⟨gM,(a2).toNat,none⟩) BK264.out (by intro e_;have h_ := BK264.out;rw [show _ = gM from e_,BKM.out] at h_;simp at h_) (.slice An yP.length cn))
         replace HO270 := aM_ (Kd.R_mono (Kd.R_far (p := ⟨gM,(a2).toNat,none⟩) (Kd.R_bound HO270.out) (fun k hk e => absurd hk.2.1 (Nat.not_le.2 (show k < w.heap.size from (show k = gM from e) ▸ HGM.out))) (.slice An yP.length cn)) (fun _ hk => hk.1))
         replace HKP := aM_ (HKP.out.setCell (p := ⟨gM,(a2).toNat,none⟩) (.inl ((Kd.S_R hS.out).1 gM rfl)) (.slice An yP.length cn))
         replace HBP : Aside0 (Below b0 w (wP.setCell ⟨gM,(a2).toNat,none⟩ (.slice An yP.length cn))) := ⟨HBP.out.setCell (Kd.S_base hS.out gM rfl) _⟩
         clear hsM hfM HG HP HBK HSe BKM hkM HOK HRW hHeld
         generalize (wP.setCell ⟨gM,(a2).toNat,none⟩ (.slice An yP.length cn)) = wQ at HSn HKP HBP BK263 BK264 HO270 ⊢
         have hcz43_0 : wQ.cell? ⟨gb263,0,none⟩ = some (.slice (some ⟨gM,0,none⟩) l0_0.length c0_0) := (blk_cell BK263.out 0).trans rfl
         have hfz43_0 := blk_frozen BK263.out 0
         have hcz44_0 : wQ.cell? ⟨gb264,0,none⟩ = some (.slice none 0 0) := (blk_cell BK264.out 0).trans rfl
         have hfz44_0 := blk_frozen BK264.out 0
         try go_wp2
         refine bodyPost_ret (results_ct rfl _ _ gb264 24 #[.slice (some ⟨gM,0,none⟩) l0_0.length c0_0] (0,0) _ rfl (by (with_reducible repeat (first | refine bN_ ?_ _ | refine bD_ ?_ | refine bA_ ?_ _));refine blk_put (cs := #[.slice none 0 0]) ?_ 0 _ rfl;exact rW_ BK264.out) Try.underlying24 rfl (by kernel_rfl)) rfl ?_
         exact ⟨_,_,by first | rfl | (simp [*];done),Kd.S_mono (Kd.S_set HSn.out BK264.out (by decide) 0 _) (fun k hk => hk.elim (fun h => ⟨.inl h.1,fun e => absurd (Kd.R_base HO270.out k e.symm) (Nat.not_le.2 h.2)⟩) (fun h => ⟨.inr h.1,h.2⟩)),Kd.R_mono (Kd.R_far (p := ⟨gb264,0,none⟩) (Kd.R_types HO270.out BK264.out (by decide)) (fun _ hk => hk.2) _) (fun _ hk => (by first | exact hk.1.1 | exact hk.1)),HBP.out.setCell (Nat.le_trans hb0w.out GE264.out) _,HKP.out.setCell (p := ⟨gb264,0,none⟩) (.inr GE264.out) _⟩
        ·rw [if_neg c15] at H
         exact absurd H (by simp)
       ·replace c14 := Bool.eq_false_iff.mpr c14
        subst c14
        have H1 : (if (rd_L4 l0_0 a2).length < 4398046511104 then (some (l0_0.set (a2 : Int).toNat (rd_L4 l0_0 a2 ++ [(⟨a3,y278⟩ : S43)]),y272)) else (none)) = some (r1,r2) := by rw [if_neg (show ¬ (false = true) by decide)] at H;exact H
        clear H
        have H := H1
        clear H1
        by_cases cP : (rd_L4 l0_0 a2).length < 4398046511104
        case neg => rw [if_neg cP] at H;exact absurd H (by simp)
        rw [if_pos cP] at H
        have LMcP := aM_ cP
        clear cP
        obtain ⟨yP,hyP⟩ : ∃ y_ : List S43,y_ = rd_L4 l0_0 a2 ++ [(⟨a3,y278⟩ : S43)] := ⟨_,rfl⟩
        replace H : (some (l0_0.set (a2 : Int).toNat yP,y272)) = some (r1,r2) := by rw [hyP];exact H
        have NyP := aM_ hyP
        clear hyP
        simp only [Option.some.injEq,Prod.mk.injEq] at H
        obtain ⟨rfl,rfl⟩ := H
        go_enter Try.func86,Try.ntmps86
        try go_wp2_with (first | ((with_reducible refine gate_dst (N := 5) rfl ?_);refine bX_ 5 (cs := #[.slice A0_0 l0_0.length c0_0]) (t := 24) ?_;intro gb263 hg w45 hbox hb;have n0 := aM_ (Kd.V_below (Kd.V_elderB (by (with_reducible repeat (first | apply Kd.V_alloc | apply Kd.V_drewN | apply Kd.V_drew));exact HO0_0.out) gb263 (Nat.le_of_eq hg.symm)) hb);have n1 := aM_ (sT_ HB.out hb);have n2 := aM_ (hbox);have n3 := aM_ (sZ_ hg HB.out);have n4 := aM_ (sZ_ hg HB.out);clear HO0_0;clear HB;have HO0_0 := n0;have HB := n1;have BK263 := n2;have GW263 := n3;have GE263 := n4;clear n0 n1 n2 n3 n4;clear hb hbox hg) | ((with_reducible refine gate_dst (N := 10) rfl ?_);refine bX_ 10 (cs := #[.slice none 0 0]) (t := 24) ?_;intro gb264 hg w46 hbox hb;have n0 := aM_ (Kd.V_below (Kd.V_elderB (by (with_reducible repeat (first | apply Kd.V_alloc | apply Kd.V_drewN | apply Kd.V_drew));exact HO0_0.out) gb264 (Nat.le_of_eq hg.symm)) hb);have n1 := aM_ (nB_ BK263.out hb);have n2 := aM_ (sT_ HB.out hb);have n3 := aM_ (hbox);have n4 := aM_ (sZ_ hg HB.out);have n5 := aM_ (sZ_ hg HB.out);have n6 := aM_ (nL_ hg BK263.out);have n7 := aM_ (nG_ hg BK263.out);clear HO0_0;clear BK263;clear HB;have HO0_0 := n0;have BK263 := n1;have HB := n2;have BK264 := n3;have GW264 := n4;have GE264 := n5;have NB263_264 := n6;have NB264_263 := n7;clear n0 n1 n2 n3 n4 n5 n6 n7;clear hb hbox hg) | ((with_reducible refine gate_dst (N := 14) rfl ?_);refine Kd.R_lit (Kd.int .i64) _ 3 ?hg (N := 14) ?hd (xs := ([] : List Int)) (inner := []) (ok := fun _ => True) (okp := fun _ => True) ?hr ?hp (fun _ hk => hk) trivial (Below.refl _ _) (Nat.le_refl _) (by simp) ?_;(case hd => rfl);(case hg => rfl);(case hr => first | (go_simp;done) | (go_simp;rfl));(case hp => exact (Reps.none _ _));intro v266 w47 ho48 hb hg_ hnew_;clear hg_ hnew_;(first | rw [← Ny265.out] at ho48 | (simp only [Int.reduceToNat] at ho48;rw [← Ny265.out] at ho48));have n0 := aM_ (Kd.V_elder' (by (with_reducible repeat (first | apply Kd.V_alloc | apply Kd.V_drewN | apply Kd.V_drew));exact HO0_0.out) (Kd.R_base ho48) hb);have n1 := aM_ (Kd.R_lower (Kd.R_newM (M := fun k_ => (w.heap.size ≤ k_)) ho48 (below_size (gB_ HB.out)) (fun k_ h_ => h_)) (below_size (gB_ HB.out)));have n2 := aM_ (nB_ BK263.out hb);have n3 := aM_ (nB_ BK264.out hb);have n4 := aM_ (sT_ HB.out hb);clear HO0_0;clear BK263;clear BK264;clear HB;have HO0_0 := n0;have HO267 := n1;have BK263 := n2;have BK264 := n3;have HB := n4;clear n0 n1 n2 n3 n4;clear hb ho48) | ((with_reducible refine gate_builtin (b := .append) (xs := #[.tmp 14,.tmp 15]) rfl ?_);at_builtin;refine Kd.R_append_rows (Kd.int .i64) (w0 := w) w.heap.size rfl (.tmp 14) (.tmp 15) 31 3 (.int .i64 0) 8 rfl Try.underlying31 info3 rfl (by decide) (by omega) v266 y265 l1 _ _ _ (fun k_ => (w.heap.size ≤ k_)) (fun _ => False) rfl rfl ?aO ?aR (fun _ _ h => h) (fun _ h => h.elim) ?aF ?aB ?aS ?aL ?_;(case aR => repeat (first | exact (Kd.C_below HR1.out HB.out) | (with_reducible refine Kd.C_alloc ?_ _) | (with_reducible refine Kd.C_drewN ?_ _) | (with_reducible refine Kd.C_drew ?_)));(case aB => exact (gB_ HB.out));(case aF => exact (fun k_ hk => (Nat.le_trans (below_size (gB_ HB.out)) hk)));(case aO => exact (by (with_reducible repeat (first | apply rA_ | apply rN_ | apply rD_));exact Kd.R_mono HO267.out (fun _ hk => hk.1)));(case aS => exact (below_size (gB_ HB.out)));(case aL => have := LMc6.out;omega);intro v269 w49 ho hb hg hat;rw [← Ny268.out] at ho;have n0 := aM_ (Kd.V_afterv (ok := (fun k_ => (P0_0_ k_ ∨ w.heap.size ≤ k_) ∧ k_ ≠ gb263 ∧ k_ ≠ gb264)) (by (with_reducible repeat (first | apply Kd.V_alloc | apply Kd.V_drewN | apply Kd.V_drew));exact Kd.V_mono HO0_0.out (fun _ hk => ⟨⟨hk.1.1.1,⟨hk.1.1.2,hk.1.2⟩⟩,hk.2⟩)) hg hat);have n1 := aM_ (blk_grown (g := gb263) (o := .cells #[.slice A0_0 l0_0.length c0_0] 24 (0,0)) (by (with_reducible repeat (first | refine bN_ ?_ _ | refine bD_ ?_ | refine bA_ ?_ _));exact BK263.out) hg (Kd.R_ne HO267.out BK263.out (by decide)));have n2 := aM_ (blk_grown (g := gb264) (o := .cells #[.slice none 0 0] 24 (0,0)) (by (with_reducible repeat (first | refine bN_ ?_ _ | refine bD_ ?_ | refine bA_ ?_ _));exact BK264.out) hg (Kd.R_ne HO267.out BK264.out (by decide)));have n3 := aM_ (hb);have n4 := aM_ (ho);clear HO0_0;clear BK263;clear BK264;clear HB;clear HO267;have HO0_0 := n0;have BK263 := n1;have BK264 := n2;have HB := n3;have HO270 := n4;clear n0 n1 n2 n3 n4;clear ho hb hg hat;have hnb50 := NB263_264.out;have hnc50 := NB264_263.out;have hcz51_0 : w49.cell? ⟨gb263,0,none⟩ = some (.slice A0_0 l0_0.length c0_0) := (blk_cell BK263.out 0).trans rfl;have hfz51_0 := blk_frozen BK263.out 0;have p271 : 0 ≤ (a2 : Int) := of_decide_eq_true (by first | (with_reducible assumption) | assumption);have q271 : a2 < (l0_0.length : Int) := of_decide_eq_true (by first | (with_reducible assumption) | assumption);obtain ⟨ad271,A271_0,c271_0,e271,hx271_0,hl271_0,hi271_0⟩ := at_L4 (Kd.V_reads' HO0_0.out).2.2 a2 p271 q271;cases e271;obtain ⟨ce271,hce271,hMe271,hcc271⟩ := Kd.V_get HO0_0.out [] a2 p271 (by first | exact q271 | exact of_decide_eq_true (by first | (with_reducible assumption) | assumption) | (have e_ := (Kd.V_reads' HO0_0.out).1;omega));obtain ⟨ua271_0,uc271_0,rfl,ul271_0,ge271_0⟩ := Kd.FK_slice_open hMe271;have hv271_0 := hcc271 0 _ rfl;rw [Nat.add_zero,show ((Kd.slice 43 k43)).sz = 1 from rfl,Nat.mul_one] at hv271_0;replace hv271_0 := Option.some.inj (hv271_0.symm.trans hx271_0);injection hv271_0 with hva_ hvn_ hvc_;rw [hva_] at ge271_0;rw [hvc_] at ul271_0;have HL271_0 := aM_ (show Kd.V k43 43 _ w.heap.size _ _ (rd_L4 l0_0 a2) from Kd.V_mk ul271_0 ge271_0);clear hva_ hvn_ hvc_ ge271_0 ul271_0;clear hcc271 hce271;have HR271_0 := aM_ hi271_0;have HC271_0 := aM_ hl271_0;clear hi271_0 hl271_0;replace p271 := eq_true p271;replace q271 := eq_true q271;have p10 : 0 ≤ (a2 : Int) := of_decide_eq_true (by first | (with_reducible assumption) | assumption);have q10 : (a2 : Int) < ((y268.length : Int) : Int) := of_decide_eq_true (by first | (with_reducible assumption) | assumption);obtain ⟨go10,co10,eo10,gb10,gl10,cl10,HG10⟩ := Kd.R_form HO270.out (by omega);(first | cases eo10 | (injection eo10 with ea_ en_ ec_;(first | subst ea_ | (injection ea_ with ea_;subst ea_));subst ec_;clear en_));have GB10 := aM_ gb10;have GG10 := aM_ HG10;clear gb10 gl10 HG10;obtain ⟨hx10_0,hf10_0⟩ := Kd.R_celln 0 HO270.out (a2 : Int) p10 q10;replace p10 := eq_true p10;replace q10 := eq_true q10;obtain ⟨hy52_,hz52_⟩ := Kd.R_celln 0 HO270.out (a2 : Int) (of_decide_eq_true (by first | (with_reducible assumption) | assumption)) (of_decide_eq_true (by first | (with_reducible assumption) | assumption));have HP52 := Kd.R_putg HO270.out (a2 : Int) ((rd_L4 l0_0 a2).length : Int)) | ((with_reducible refine gate_store (t := 3) (p := 25) rfl ?_);refine store_event (t := 3) (p := 25) (v := ?vo_w53) (w1 := (w49.setCell ⟨go10,(a2 : Int).toNat,none⟩ (.int .i64 ((rd_L4 l0_0 a2).length : Int)))) ?hg ?ho ?hn ?hr ?_;(case ho => rfl);(case hg => rfl);(case hn => rfl);(case hr => first | (go_simp;done) | (go_simp;rfl));intro w53 hw;have hg : w49.grownBy w53 (some go10) := (by rw [hw];exact HP52.2);have hp_ : Kd.R (Kd.int .i64) 3 w53 w.heap.size (fun k_ => (w.heap.size ≤ k_)) (.slice (some ⟨go10,0,none⟩) y268.length co10) y272 := (by rw [hw,Ny272.out];exact HP52.1);clear HP52;have n0 := aM_ (Kd.V_afterv (v := (.slice (some ⟨go10,0,none⟩) y268.length co10)) (v1 := (.slice (some ⟨go10,0,none⟩) y268.length co10)) (ok := (fun k_ => (P0_0_ k_ ∨ w.heap.size ≤ k_) ∧ k_ ≠ gb263 ∧ k_ ≠ gb264)) (by (with_reducible repeat (first | apply Kd.V_alloc | apply Kd.V_drewN | apply Kd.V_drew));exact HO0_0.out) hg (.inl rfl));have n1 := aM_ (blk_grown (g := gb263) (o := .cells #[.slice (some ad271) l0_0.length c0_0] 24 (0,0)) (by (with_reducible repeat (first | refine bN_ ?_ _ | refine bD_ ?_ | refine bA_ ?_ _));exact BK263.out) hg (Kd.R_ne HO270.out BK263.out (by decide)));have n2 := aM_ (blk_grown (g := gb264) (o := .cells #[.slice none 0 0] 24 (0,0)) (by (with_reducible repeat (first | refine bN_ ?_ _ | refine bD_ ?_ | refine bA_ ?_ _));exact BK264.out) hg (Kd.R_ne HO270.out BK264.out (by decide)));have n3 := aM_ (hp_);have n4 := aM_ (Kd.V_afterv (v := (.slice (some ⟨go10,0,none⟩) y268.length co10)) (v1 := (.slice (some ⟨go10,0,none⟩) y268.length co10)) (ok := (fun k_ => (P0_0_ k_ ∨ w.heap.size ≤ k_) ∧ k_ ≠ gb263 ∧ k_ ≠ gb264)) (by (with_reducible repeat (first | apply Kd.V_alloc | apply Kd.V_drewN | apply Kd.V_drew));exact HL271_0.out) hg (.inl rfl));have n5 := aM_ ((by rw [hw];exact below_set (HB.out) GB10.out : Below w.heap.size w w53));clear HO0_0;clear BK263;clear BK264;clear HO270;clear HL271_0;clear HB;have HO0_0 := n0;have BK263 := n1;have BK264 := n2;have HO270 := n3;have HL271_0 := n4;have HB := n5;clear n0 n1 n2 n3 n4 n5;clear hg hw hp_) | ((with_reducible refine gate_dst (N := 27) rfl ?_);refine Kd.R_make (Kd.int .i64) _ 3 rfl (N := 27) rfl 31 _ _ rfl 24 rfl rfl Try.underlying31 (.int .i64 0) 8 info3 rfl (by decide) (by omega) 0 (ok := fun _ => True) (okp := fun _ => True) rfl (fun _ hk => hk) trivial (by omega) (by omega) (Below.refl _ _) (Nat.le_refl _) ?_;intro v274 w54 ho55 hb hg_ hnew_;clear hg_ hnew_;(first | rw [← Ny273.out] at ho55 | (simp only [Int.reduceToNat] at ho55;rw [← Ny273.out] at ho55));have n0 := aM_ (Kd.V_elder' (by (with_reducible repeat (first | apply Kd.V_alloc | apply Kd.V_drewN | apply Kd.V_drew));exact HO0_0.out) (Kd.R_base ho55) hb);have n1 := aM_ (Kd.R_elder' (by (with_reducible repeat (first | apply rA_ | apply rN_ | apply rD_));exact HO270.out) (Kd.R_base ho55) hb);have n2 := aM_ (Kd.V_elder' (by (with_reducible repeat (first | apply Kd.V_alloc | apply Kd.V_drewN | apply Kd.V_drew));exact HL271_0.out) (Kd.R_base ho55) hb);have n3 := aM_ (Kd.R_lower (Kd.R_new' (Kd.R_newM (M := fun k_ => (w.heap.size ≤ k_)) ho55 (below_size (gB_ HB.out)) (fun k_ h_ => h_)) (Kd.R_lt (by (with_reducible repeat (first | apply rA_ | apply rN_ | apply rD_));exact HO270.out))) (below_size (gB_ HB.out)));have n4 := aM_ (nB_ BK263.out hb);have n5 := aM_ (nB_ BK264.out hb);have n6 := aM_ (sT_ HB.out hb);clear HO0_0;clear HO270;clear HL271_0;clear BK263;clear BK264;clear HB;have HO0_0 := n0;have HO270 := n1;have HL271_0 := n2;have HO275 := n3;have BK263 := n4;have BK264 := n5;have HB := n6;clear n0 n1 n2 n3 n4 n5 n6;clear hb ho55;obtain ⟨Ao56,co56,eo56⟩ := Kd.R_slice HO275.out;subst eo56) | ((with_reducible refine gate_dst (N := 13) rfl ?_);refine bX_ 13 (cs := #[.int .i64 0,.slice none 0 0]) (t := 43) ?_;intro gb276 hg w57 hbox hb;have n0 := aM_ (Kd.V_below (Kd.V_elderB (by (with_reducible repeat (first | apply Kd.V_alloc | apply Kd.V_drewN | apply Kd.V_drew));exact HO0_0.out) gb276 (Nat.le_of_eq hg.symm)) hb);have n1 := aM_ (bR_ HO270.out hb);have n2 := aM_ (Kd.V_below (Kd.V_elderB (by (with_reducible repeat (first | apply Kd.V_alloc | apply Kd.V_drewN | apply Kd.V_drew));exact HL271_0.out) gb276 (Nat.le_of_eq hg.symm)) hb);have n3 := aM_ (bR_ HO275.out hb);have n4 := aM_ (nB_ BK263.out hb);have n5 := aM_ (nB_ BK264.out hb);have n6 := aM_ (sT_ HB.out hb);have n7 := aM_ (hbox);have n8 := aM_ (sZ_ hg HB.out);have n9 := aM_ (sZ_ hg HB.out);have n10 := aM_ (nL_ hg BK263.out);have n11 := aM_ (nG_ hg BK263.out);have n12 := aM_ (nL_ hg BK264.out);have n13 := aM_ (nG_ hg BK264.out);clear HO0_0;clear HO270;clear HL271_0;clear HO275;clear BK263;clear BK264;clear HB;have HO0_0 := n0;have HO270 := n1;have HL271_0 := n2;have HO275 := n3;have BK263 := n4;have BK264 := n5;have HB := n6;have BK276 := n7;have GW276 := n8;have GE276 := n9;have NB263_276 := n10;have NB276_263 := n11;have NB264_276 := n12;have NB276_264 := n13;clear n0 n1 n2 n3 n4 n5 n6 n7 n8 n9 n10 n11 n12 n13;clear hb hbox hg;have hnb58 := NB276_263.out;have hnc58 := NB263_276.out;have hnb59 := NB276_264.out;have hnc59 := NB264_276.out;obtain ⟨hcz60_0,hcz60_1,hfz60_0,hfz60_1⟩ := bR2_ BK276.out))
        have n0 : Aside0 (Kd.V (Kd.slice 43 k43) 44 ((w57.setCell ⟨gb276,0,none⟩ (.int .i64 a3)).setCell ⟨gb276,1,none⟩ (.slice Ao56 y273.length co56)) w.heap.size (fun k_ => (P0_0_ k_ ∨ w.heap.size ≤ k_) ∧ some k_ ≠ (.slice (some ⟨go10,0,none⟩) y268.length co10 : Value).ownBlock ∧ some k_ ≠ (.slice Ao56 y273.length co56 : Value).ownBlock ∧ k_ ≠ gb263 ∧ k_ ≠ gb264 ∧ k_ ≠ gb276) (.slice (some ad271) l0_0.length c0_0) l0_0) := ⟨by (with_reducible repeat (first | apply Kd.V_alloc | apply Kd.V_drewN | apply Kd.V_drew));exact Kd.V_mono (Kd.V_far (p := ⟨gb276,1,none⟩) (Kd.V_far (p := ⟨gb276,0,none⟩) (Kd.V_mono HO0_0.out (fun k_ hk => (⟨hk,hk.2⟩ : _ ∧ k_ ≠ gb276))) (fun _ hk => hk.2) (.int .i64 a3)) (fun _ hk => hk.2) (.slice Ao56 y273.length co56)) (fun _ hk => ⟨hk.1.1.1.1.1,⟨hk.1.1.1.2,⟨hk.1.1.2,⟨hk.1.1.1.1.2.1,⟨hk.1.1.1.1.2.2,hk.1.2⟩⟩⟩⟩⟩)⟩
        have n1 : Aside0 (Kd.R (Kd.int .i64) 3 ((w57.setCell ⟨gb276,0,none⟩ (.int .i64 a3)).setCell ⟨gb276,1,none⟩ (.slice Ao56 y273.length co56)) w.heap.size (fun k_ => (w.heap.size ≤ k_) ∧ some k_ ≠ (.slice Ao56 y273.length co56 : Value).ownBlock) (.slice (some ⟨go10,0,none⟩) y268.length co10) y272) := ⟨by (with_reducible repeat (first | apply rA_ | apply rN_ | apply rD_));exact Kd.R_mono (Kd.R_far (p := ⟨gb276,1,none⟩) (Kd.R_far (p := ⟨gb276,0,none⟩) (Kd.R_types HO270.out BK276.out (by decide)) (fun _ hk => hk.2) (.int .i64 a3)) (fun _ hk => hk.2) (.slice Ao56 y273.length co56)) (fun _ hk => ⟨hk.1.1,hk.1.2⟩)⟩
        have n2 : Aside0 (Kd.V k43 43 ((w57.setCell ⟨gb276,0,none⟩ (.int .i64 a3)).setCell ⟨gb276,1,none⟩ (.slice Ao56 y273.length co56)) w.heap.size (fun k_ => (P0_0_ k_ ∨ w.heap.size ≤ k_) ∧ some k_ ≠ (.slice (some ⟨go10,0,none⟩) y268.length co10 : Value).ownBlock ∧ some k_ ≠ (.slice Ao56 y273.length co56 : Value).ownBlock ∧ k_ ≠ gb263 ∧ k_ ≠ gb264 ∧ k_ ≠ gb276) (.slice A271_0 (rd_L4 l0_0 a2).length c271_0) (rd_L4 l0_0 a2)) := ⟨by (with_reducible repeat (first | apply Kd.V_alloc | apply Kd.V_drewN | apply Kd.V_drew));exact Kd.V_mono (Kd.V_far (p := ⟨gb276,1,none⟩) (Kd.V_far (p := ⟨gb276,0,none⟩) (Kd.V_mono HL271_0.out (fun k_ hk => (⟨hk,hk.2⟩ : _ ∧ k_ ≠ gb276))) (fun _ hk => hk.2) (.int .i64 a3)) (fun _ hk => hk.2) (.slice Ao56 y273.length co56)) (fun _ hk => ⟨hk.1.1.1.1.1,⟨hk.1.1.1.2,⟨hk.1.1.2,⟨hk.1.1.1.1.2.1,⟨hk.1.1.1.1.2.2,hk.1.2⟩⟩⟩⟩⟩)⟩
        have n3 : Aside0 (Kd.R (Kd.int .i64) 3 ((w57.setCell ⟨gb276,0,none⟩ (.int .i64 a3)).setCell ⟨gb276,1,none⟩ (.slice Ao56 y273.length co56)) w.heap.size (fun k_ => (w.heap.size ≤ k_) ∧ some k_ ≠ (.slice (some ⟨go10,0,none⟩) y268.length co10 : Value).ownBlock) (.slice Ao56 y273.length co56) y273) := ⟨by (with_reducible repeat (first | apply rA_ | apply rN_ | apply rD_));exact Kd.R_mono (Kd.R_far (p := ⟨gb276,1,none⟩) (Kd.R_far (p := ⟨gb276,0,none⟩) (Kd.R_types HO275.out BK276.out (by decide)) (fun _ hk => hk.2) (.int .i64 a3)) (fun _ hk => hk.2) (.slice Ao56 y273.length co56)) (fun _ hk => ⟨hk.1.1.1,hk.1.2⟩)⟩
        have n4 : Aside0 (((w57.setCell ⟨gb276,0,none⟩ (.int .i64 a3)).setCell ⟨gb276,1,none⟩ (.slice Ao56 y273.length co56)).heap[gb263]? = some (.cells #[.slice (some ad271) l0_0.length c0_0] 24 (0,0))) := ⟨by (with_reducible repeat (first | refine bN_ ?_ _ | refine bD_ ?_ | refine bA_ ?_ _));refine blk_far ?_ NB263_276.out _;(with_reducible repeat (first | refine bN_ ?_ _ | refine bD_ ?_ | refine bA_ ?_ _));refine blk_far ?_ NB263_276.out _;(with_reducible repeat (first | refine bN_ ?_ _ | refine bD_ ?_ | refine bA_ ?_ _));exact BK263.out⟩
        have n5 : Aside0 (((w57.setCell ⟨gb276,0,none⟩ (.int .i64 a3)).setCell ⟨gb276,1,none⟩ (.slice Ao56 y273.length co56)).heap[gb264]? = some (.cells #[.slice none 0 0] 24 (0,0))) := ⟨by (with_reducible repeat (first | refine bN_ ?_ _ | refine bD_ ?_ | refine bA_ ?_ _));refine blk_far ?_ NB264_276.out _;(with_reducible repeat (first | refine bN_ ?_ _ | refine bD_ ?_ | refine bA_ ?_ _));refine blk_far ?_ NB264_276.out _;(with_reducible repeat (first | refine bN_ ?_ _ | refine bD_ ?_ | refine bA_ ?_ _));exact BK264.out⟩
        have n6 : Aside0 (((w57.setCell ⟨gb276,0,none⟩ (.int .i64 a3)).setCell ⟨gb276,1,none⟩ (.slice Ao56 y273.length co56)).heap[gb276]? = some (.cells #[.int .i64 a3,.slice Ao56 y273.length co56] 43 (0,0))) := ⟨by (with_reducible repeat (first | refine bN_ ?_ _ | refine bD_ ?_ | refine bA_ ?_ _));refine blk_put (cs := #[.int .i64 a3,.slice none 0 0]) ?_ 1 _ rfl;refine blk_put (cs := #[.int .i64 0,.slice none 0 0]) ?_ 0 _ rfl;(with_reducible repeat (first | refine bN_ ?_ _ | refine bD_ ?_ | refine bA_ ?_ _));exact BK276.out⟩
        have n7 : Aside0 (Below w.heap.size w ((w57.setCell ⟨gb276,0,none⟩ (.int .i64 a3)).setCell ⟨gb276,1,none⟩ (.slice Ao56 y273.length co56))) := ⟨gW_ HB.out⟩
        (try clear HO0_0)
        (try clear HO270)
        (try clear HL271_0)
        (try clear HO275)
        (try clear BK263)
        (try clear BK264)
        (try clear BK276)
        (try clear HB)
        generalize ((w57.setCell ⟨gb276,0,none⟩ (.int .i64 a3)).setCell ⟨gb276,1,none⟩ (.slice Ao56 y273.length co56)) = w61 at n0 n1 n2 n3 n4 n5 n6 n7 ⊢
        have HO0_0 := n0
        have HO270 := n1
        have HL271_0 := n2
        have HO275 := n3
        have BK263 := n4
        have BK264 := n5
        have BK276 := n6
        have HB := n7
        clear n0 n1 n2 n3 n4 n5 n6 n7
        have n0 := aM_ (Kd.V_drew HO0_0.out)
        have n1 := aM_ (Kd.R_drew HO270.out)
        have n2 := aM_ (Kd.V_drew HL271_0.out)
        have n3 := aM_ (Kd.R_drew HO275.out)
        have n4 := aM_ (blk_drew BK263.out)
        have n5 := aM_ (blk_drew BK264.out)
        have n6 := aM_ (blk_drew BK276.out)
        have n7 := aM_ (below_drew1 HB.out)
        clear HO0_0
        clear HO270
        clear HL271_0
        clear HO275
        clear BK263
        clear BK264
        clear BK276
        clear HB
        have HO0_0 := n0
        have HO270 := n1
        have HL271_0 := n2
        have HO275 := n3
        have BK263 := n4
        have BK264 := n5
        have BK276 := n6
        have HB := n7
        clear n0 n1 n2 n3 n4 n5 n6 n7
        have p277 : 0 ≤ (a2 : Int) := of_decide_eq_true (by first | (with_reducible assumption) | assumption)
        have q277 : a2 < (y272.length : Int) := (by have h_ : (a2 : Int) < ((y268.length : Int) : Int) := of_decide_eq_true (by first | (with_reducible assumption) | assumption);first | (have e_ := (Kd.R_reads' HO270.out).1;omega) | simpa only [Ny272.out,List.length_set] using h_)
        have ql277 : ((a2 : Int) < ((y268.length : Int) : Int)) = True := eq_true (of_decide_eq_true (by first | (with_reducible assumption) | assumption))
        obtain ⟨ad277,e277,hx277_0⟩ := Kd.at_int (Kd.R_reads' HO270.out).2.2 a2 p277 q277
        obtain rfl : (⟨go10,0,none⟩ : Addr) = ad277 := (by injection e277)
        (first | simp only [add_plain] at hx277_0 | simp only [add_at] at hx277_0 | simp only [Addr.add,Nat.zero_add] at hx277_0 | skip)
        replace p277 := eq_true p277
        replace q277 := eq_true q277
        have p13 : 0 ≤ (a2 : Int) := of_decide_eq_true (by first | (with_reducible assumption) | assumption)
        have q13 : (a2 : Int) < ((y273.length : Int) : Int) := of_decide_eq_true (by first | (with_reducible assumption) | assumption)
        obtain ⟨go13,co13,eo13,gb13,gl13,cl13,HG13⟩ := Kd.R_form HO275.out (by omega)
        (first | cases eo13 | (injection eo13 with ea_ en_ ec_;(first | subst ea_ | (injection ea_ with ea_;subst ea_));subst ec_;clear en_))
        have GB13 := aM_ gb13
        have GG13 := aM_ HG13
        clear gb13 gl13 HG13
        obtain ⟨hx13_0,hf13_0⟩ := Kd.R_celln 0 HO275.out (a2 : Int) p13 q13
        replace p13 := eq_true p13
        replace q13 := eq_true q13
        have HP63 := Kd.R_putn HO275.out (a2 : Int) (rd y272 a2)
        rw [← Ny278.out] at HP63
        have HQ63 := aM_ HP63
        clear HP63
        refine start_ (n := 9) (S := fun w' => w'.cell? ⟨gb276,0,none⟩ = some (.int .i64 a3) ∧ w'.cell? ⟨gb276,1,none⟩ = some (.slice (some ⟨go13,0,none⟩) y273.length co56) ∧ w'.cell? ⟨go10,(a2).toNat,none⟩ = some (.int .i64 (rd y272 a2))) (ds := [8]) #[false,false,false,false,false,false,false,false,false] (by kernel_rfl) rfl rfl ⟨(blk_cell BK276.out 0).trans rfl,(blk_cell BK276.out 1).trans rfl,hx277_0⟩ (fun hHeld => ?_);refine with_tabW spec_l6Store.tab4 spec_l6Store.bits4 (fun HT_ HW_ => ?_)
        generalize w61.drew = w62 at HO0_0 HO270 HL271_0 HO275 BK263 BK264 BK276 HB GG13 HQ63 hf13_0 hx13_0 hx277_0 hHeld ⊢
        refine pU_ 0 (some 29) (mk_ 9 1) ?_
        refine pU_ 2 (some 31) (mk_ 9 5) ?_
        refine pU_ 3 (some 32) (mk_ 9 13) ?_
        refine pU_ 4 (some 33) (mk_ 9 29) ?_
        refine pU_ 5 (some 34) (mk_ 9 61) ?_
        refine tK3_ 1 (some 30) (mk_ 9 63) ?_
        refine tK3_ 6 (some 35) (mk_ 9 127) ?_
        refine pU_ 7 (some 36) (mk_ 9 255) ?_
        refine last_ (i := 8) (N := none) #[true,true,true,true,true,true,true,true,true] rfl rfl (one_of HT_.out (by kernel_rfl)) (by decide) (fun K hK => ?_)
        refine skip_ (w1 := ?_) (by rfl) rfl ?_ ?_
        rotate_left
        ·go_simp
         rfl
        refine hK.out _ _ ?_
        clear hK K
        refine done_ (done_of HT_.out (by kernel_rfl)) ?_
        have n0 : Aside0 (Kd.V (Kd.slice 43 k43) 44 (w62.setCell ⟨go13,(a2 : Int).toNat,none⟩ (.int .i64 (rd y272 a2))) w.heap.size (fun k_ => (P0_0_ k_ ∨ w.heap.size ≤ k_) ∧ some k_ ≠ (.slice (some ⟨go10,0,none⟩) y268.length co10 : Value).ownBlock ∧ some k_ ≠ (.slice (some ⟨go13,0,none⟩) y273.length co56 : Value).ownBlock ∧ k_ ≠ gb263 ∧ k_ ≠ gb264 ∧ k_ ≠ gb276) (.slice (some ad271) l0_0.length c0_0) l0_0) := ⟨by (with_reducible repeat (first | apply Kd.V_alloc | apply Kd.V_drewN | apply Kd.V_drew));exact Kd.V_mono (Kd.V_far (p := ⟨go13,(a2 : Int).toNat,none⟩) (Kd.V_mono HO0_0.out (fun k_ hk => (⟨hk,fun e_ => hk.2.2.1 (by rw [e_];rfl)⟩ : _ ∧ k_ ≠ go13))) (fun _ hk => hk.2) (.int .i64 (rd y272 a2))) (fun _ hk => ⟨hk.1.1,⟨hk.1.2.1,⟨hk.1.2.2.1,⟨hk.1.2.2.2.1,⟨hk.1.2.2.2.2.1,hk.1.2.2.2.2.2⟩⟩⟩⟩⟩)⟩
        have n1 : Aside0 (Kd.R (Kd.int .i64) 3 (w62.setCell ⟨go13,(a2 : Int).toNat,none⟩ (.int .i64 (rd y272 a2))) w.heap.size (fun k_ => (w.heap.size ≤ k_) ∧ some k_ ≠ (.slice (some ⟨go13,0,none⟩) y273.length co56 : Value).ownBlock) (.slice (some ⟨go10,0,none⟩) y268.length co10) y272) := ⟨by (with_reducible repeat (first | apply rA_ | apply rN_ | apply rD_));exact Kd.R_mono (Kd.R_far (p := ⟨go13,(a2 : Int).toNat,none⟩) (Kd.R_mono HO270.out (fun k_ hk => (⟨hk,fun e_ => hk.2 (by rw [e_];rfl)⟩ : _ ∧ k_ ≠ go13))) (fun _ hk => hk.2) (.int .i64 (rd y272 a2))) (fun _ hk => ⟨hk.1.1,hk.1.2⟩)⟩
        have n2 : Aside0 (Kd.V k43 43 (w62.setCell ⟨go13,(a2 : Int).toNat,none⟩ (.int .i64 (rd y272 a2))) w.heap.size (fun k_ => (P0_0_ k_ ∨ w.heap.size ≤ k_) ∧ some k_ ≠ (.slice (some ⟨go10,0,none⟩) y268.length co10 : Value).ownBlock ∧ some k_ ≠ (.slice (some ⟨go13,0,none⟩) y273.length co56 : Value).ownBlock ∧ k_ ≠ gb263 ∧ k_ ≠ gb264 ∧ k_ ≠ gb276) (.slice A271_0 (rd_L4 l0_0 a2).length c271_0) (rd_L4 l0_0 a2)) := ⟨by (with_reducible repeat (first | apply Kd.V_alloc | apply Kd.V_drewN | apply Kd.V_drew));exact Kd.V_mono (Kd.V_far (p := ⟨go13,(a2 : Int).toNat,none⟩) (Kd.V_mono HL271_0.out (fun k_ hk => (⟨hk,fun e_ => hk.2.2.1 (by rw [e_];rfl)⟩ : _ ∧ k_ ≠ go13))) (fun _ hk => hk.2) (.int .i64 (rd y272 a2))) (fun _ hk => ⟨hk.1.1,⟨hk.1.2.1,⟨hk.1.2.2.1,⟨hk.1.2.2.2.1,⟨hk.1.2.2.2.2.1,hk.1.2.2.2.2.2⟩⟩⟩⟩⟩)⟩
        have n3 : Aside0 (Kd.R (Kd.int .i64) 3 (w62.setCell ⟨go13,(a2 : Int).toNat,none⟩ (.int .i64 (rd y272 a2))) w.heap.size (fun k_ => (w.heap.size ≤ k_) ∧ some k_ ≠ (.slice (some ⟨go10,0,none⟩) y268.length co10 : Value).ownBlock) (.slice (some ⟨go13,0,none⟩) y273.length co56) y278) := ⟨by (with_reducible repeat (first | apply rA_ | apply rN_ | apply rD_));exact HQ63.out⟩
        have n4 : Aside0 ((w62.setCell ⟨go13,(a2 : Int).toNat,none⟩ (.int .i64 (rd y272 a2))).heap[gb263]? = some (.cells #[.slice (some ad271) l0_0.length c0_0] 24 (0,0))) := ⟨by (with_reducible repeat (first | refine bN_ ?_ _ | refine bD_ ?_ | refine bA_ ?_ _));refine blk_far ?_ (by have h_ := Kd.R_ne HO275.out BK263.out (by decide);intro e_;exact h_ (by rw [e_];rfl)) _;(with_reducible repeat (first | refine bN_ ?_ _ | refine bD_ ?_ | refine bA_ ?_ _));exact BK263.out⟩
        have n5 : Aside0 ((w62.setCell ⟨go13,(a2 : Int).toNat,none⟩ (.int .i64 (rd y272 a2))).heap[gb264]? = some (.cells #[.slice none 0 0] 24 (0,0))) := ⟨by (with_reducible repeat (first | refine bN_ ?_ _ | refine bD_ ?_ | refine bA_ ?_ _));refine blk_far ?_ (by have h_ := Kd.R_ne HO275.out BK264.out (by decide);intro e_;exact h_ (by rw [e_];rfl)) _;(with_reducible repeat (first | refine bN_ ?_ _ | refine bD_ ?_ | refine bA_ ?_ _));exact BK264.out⟩
        have n6 : Aside0 ((w62.setCell ⟨go13,(a2 : Int).toNat,none⟩ (.int .i64 (rd y272 a2))).heap[gb276]? = some (.cells #[.int .i64 a3,.slice (some ⟨go13,0,none⟩) y273.length co56] 43 (0,0))) := ⟨by (with_reducible repeat (first | refine bN_ ?_ _ | refine bD_ ?_ | refine bA_ ?_ _));refine blk_far ?_ (by have h_ := Kd.R_ne HO275.out BK276.out (by decide);intro e_;exact h_ (by rw [e_];rfl)) _;(with_reducible repeat (first | refine bN_ ?_ _ | refine bD_ ?_ | refine bA_ ?_ _));exact BK276.out⟩
        have n7 : Aside0 (Below w.heap.size w (w62.setCell ⟨go13,(a2 : Int).toNat,none⟩ (.int .i64 (rd y272 a2)))) := ⟨by repeat (first | (with_reducible first | exact HB.out | apply hA_ | apply hN_ | apply hD_ | refine below_set ?_ GB13.out | refine below_set ?_ GE263.out | refine below_set ?_ GE264.out | refine below_set ?_ GE276.out) | exact HB.out)⟩
        (try clear HO0_0)
        (try clear HO270)
        (try clear HL271_0)
        (try clear HO275)
        (try clear BK263)
        (try clear BK264)
        (try clear BK276)
        (try clear HB)
        generalize (w62.setCell ⟨go13,(a2 : Int).toNat,none⟩ (.int .i64 (rd y272 a2))) = w64 at n0 n1 n2 n3 n4 n5 n6 n7 ⊢
        have HO0_0 := n0
        have HO270 := n1
        have HL271_0 := n2
        have HO275 := n3
        have BK263 := n4
        have BK264 := n5
        have BK276 := n6
        have HB := n7
        clear n0 n1 n2 n3 n4 n5 n6 n7
        try go_wp2
        have n0 := aM_ (Kd.V_drew HO0_0.out)
        have n1 := aM_ (Kd.R_drew HO270.out)
        have n2 := aM_ (Kd.V_drew HL271_0.out)
        have n3 := aM_ (Kd.R_drew HO275.out)
        have n4 := aM_ (blk_drew BK263.out)
        have n5 := aM_ (blk_drew BK264.out)
        have n6 := aM_ (blk_drew BK276.out)
        have n7 := aM_ (below_drew1 HB.out)
        clear HO0_0
        clear HO270
        clear HL271_0
        clear HO275
        clear BK263
        clear BK264
        clear BK276
        clear HB
        have HO0_0 := n0
        have HO270 := n1
        have HL271_0 := n2
        have HO275 := n3
        have BK263 := n4
        have BK264 := n5
        have BK276 := n6
        have HB := n7
        clear n0 n1 n2 n3 n4 n5 n6 n7
        have hbs_ := below_size HB.out
        have HSm := aM_ (Kd.S_old hS.out HB.out)
        have hp_ : 0 ≤ a2 := of_decide_eq_true c7b0
        have hq_ : a2 < (l0_0.length : Int) := of_decide_eq_true c8b0
        obtain ⟨gM,rfl⟩ := Kd.R_head (Kd.S_R HSm.out)
        obtain ⟨oki,Ae,ce,hSe,hcM,hoki,⟨cellsM,hBM⟩,hback⟩ := S_push HSm.out a2 hp_ hq_
        have HSe := aM_ hSe
        have BKM := aM_ hBM
        have hkM := aM_ ((blk_cell hBM (a2).toNat).symm.trans hcM)
        have HBK := aM_ hback
        have HOK := aM_ hoki
        have HGM : Aside0 (gM < w.heap.size) := ⟨((Kd.S_R HSm.out).1 gM rfl).2⟩
        have HRW : Aside0 (∀ k,(Value.slice Ae (rd_L4 l0_0 a2).length ce).ownBlock = some k → P0_0_ k ∧ k < w.heap.size) := ⟨fun k hk => (hoki k ((Kd.S_R hSe).1 k hk)).1⟩
        clear hSe hBM hcM hback hoki hp_ hq_
        refine start_ (n := 13) (S := fun w' => w'.cell? ⟨gb263,0,none⟩ = some (.slice (some ⟨gM,0,none⟩) l0_0.length c0_0) ∧ w'.cell? ⟨gM,(a2).toNat,none⟩ = some (.slice Ae (rd_L4 l0_0 a2).length ce) ∧ w'.cell? ⟨gb276,0,none⟩ = some (.int .i64 a3) ∧ w'.cell? ⟨gb276,1,none⟩ = some (.slice (some ⟨go13,0,none⟩) y273.length co56)) (ds := [12]) #[false,false,false,false,false,false,false,false,false,false,false,false,false] (by kernel_rfl) rfl rfl ⟨(blk_cell (BK263.out) 0).trans rfl,(blk_cell (BKM.out) _).trans hkM.out,(blk_cell (BK276.out) 0).trans rfl,(blk_cell (BK276.out) 1).trans rfl⟩ (fun hHeld => ?_)
        generalize w64.drew = w65 at HO0_0 HO270 HL271_0 HO275 BK263 BK264 BK276 HB HSm HSe BKM HBK hbs_ hHeld ⊢
        refine pU_ 0 (some 42) (mk_ 13 1) ?_
        refine pU_ 2 (some 44) (mk_ 13 5) ?_
        refine pU_ 3 (some 45) (mk_ 13 13) ?_
        refine pU_ 5 (some 47) (mk_ 13 45) ?_
        refine tK4_ 1 (some 43) (mk_ 13 47) ?_
        refine tK4_ 4 (some 46) (mk_ 13 63) ?_
        refine pU_ 6 (some 48) (mk_ 13 127) ?_
        refine tK4_ 7 (some 49) (mk_ 13 255) ?_
        refine tK4_ 8 (some 50) (mk_ 13 511) ?_
        refine oN_ 9 (some 51) (mk_ 13 1023) (fun K hK => ?_)
        refine value_ (w1 := ?_) (v := ?_) (by rfl) rfl ?_ ?_
        rotate_left 2
        ·go_simp
         constructor
         ·rfl
         ·rfl
        refine hK.out _ _ ⟨(blk_cell (blk_alloc BK263.out _) 0).trans rfl,(blk_cell (blk_alloc BKM.out _) _).trans hkM.out,(blk_cell (blk_alloc BK276.out _) 0).trans rfl,(blk_cell (blk_alloc BK276.out _) 1).trans rfl⟩ (fun hHeld => ?_)
        clear hK K
        refine norm_ (a' := ?_) ?_ ?_
        rotate_left
        ·show Act.put _ (some 51) _ = _
         simp only [pt_,pn_,sI_,s0_,s1_,i64_w,i32_w]
         rfl
        refine oN_ 10 (some 52) (mk_ 13 2047) (fun K hK => ?_)
        have hT1 := HO275.out.1
        have hT2 : ∀ k,(.slice (some ⟨go13,0,none⟩) y273.length co56 : Value).ownBlock = some k → w.heap.size ≤ k := Kd.R_base HO275.out
        refine Kd.S_append_step k43 (w0 := w) b0 (by rfl) (.tmp 49) (.tmp 51) 44 43 (.agg #[(.int .i64 0),(.slice none 0 0)]) 32 rfl Try.underlying44 info43 rfl (by decide) (by omega) (.slice Ae (rd_L4 l0_0 a2).length ce) (rd_L4 l0_0 a2) (⟨a3,y278⟩ : S43) [.int .i64 a3,.slice (some ⟨go13,0,none⟩) y273.length co56] (fun k_ => oki k_ ∨ (w.heap.size ≤ k_ ∧ some k_ ≠ (.slice (some ⟨go10,0,none⟩) y268.length co10 : Value).ownBlock)) (fun k_ => some k_ = (.slice (some ⟨go13,0,none⟩) y273.length co56 : Value).ownBlock) rfl rfl ?aP ?aK ?aF ?aO ?aB ?aS ?aL ?_
        (case aP => exact k43_mkM _ _ _ (⟨a3,y278⟩ : S43) (Kd.R_mono (Kd.R_tight rfl (Kd.R_lower HO275.out hb0w.out)) (fun _ h_ => h_)))
        (case aK => exact fun k hk => ⟨.inr ⟨hT2 k hk.symm,by have h1 := hT1 k hk.symm;first | exact h1.2.1 | exact h1.2 | exact h1.1 | exact h1.1.2 | exact h1⟩,fun e => absurd (hT2 k hk.symm) (Nat.not_le.2 (HRW.out k e.symm).2)⟩)
        (case aF => exact fun k hk => .inr ⟨Nat.le_trans hbs_ hk,fun e => Nat.not_le.2 (Kd.R_lt HO270.out k e.symm) hk⟩)
        (case aO => exact Kd.S_mono HSe.out (fun k hk => ⟨.inl hk,fun e => absurd (hT2 k e.symm) (Nat.not_le.2 (HOK.out k hk).1.2)⟩))
        (case aB => exact HB.out.mono hb0w.out)
        (case aS => exact Nat.le_trans hb0w.out hbs_)
        (case aL => have := LMcP.out;omega)
        intro vP wP ho hb hg hat
        rw [← NyP.out] at ho
        have hnb : ∀ {g t : Nat} {cs : Array Value},w65.heap[g]? = some (.cells cs t (0,0)) → t ≠ 43 → some g ≠ (Value.slice Ae (rd_L4 l0_0 a2).length ce).ownBlock := fun hb_ ht => Kd.S_ne HSe.out hb_ (Ne.symm ht)
        have HKP : Aside0 (Kept w wP P0_0_) := ⟨Kept.of_grown hg (Kept.of_below HB.out P0_0_) (fun k e => .inl (HRW.out k e).1)⟩
        have BK263n := aM_ (blk_grown BK263.out hg (hnb BK263.out (by decide)))
        have BK264n := aM_ (blk_grown BK264.out hg (hnb BK264.out (by decide)))
        have BKMn := aM_ (blk_grown BKM.out hg (hnb BKM.out (by decide)))
        have BK276n := aM_ (blk_grown BK276.out hg (fun e => absurd GE276.out (Nat.not_le.2 (HRW.out _ e.symm).2)))
        have HO270n := aM_ (Kd.R_mono (Kd.R_grown (Kd.R_bound HO270.out) hg (fun k hk e => absurd hk.2.1 (Nat.not_le.2 (HRW.out k e.symm).2))) (fun _ hk => hk.1))
        clear hT1 hT2 hnb
        clear BK263 BK264 BKM BK276 HO270 HB HSm
        have BK263 := BK263n
        have BK264 := BK264n
        have BKM := BKMn
        have BK276 := BK276n
        have HO270 := HO270n
        clear BK263n BK264n BKMn BK276n HO270n
        obtain ⟨An,cn,rfl⟩ := Kd.S_slice ho
        have HP := aM_ ho
        have HBP : Aside0 (Below b0 w wP) := ⟨hb⟩
        have HG := aM_ hg
        clear ho hb hg hat
        refine hK.out _ _ ⟨(blk_cell (BK263.out) 0).trans rfl,(blk_cell (BKM.out) _).trans hkM.out,(blk_cell (BK276.out) 0).trans rfl,(blk_cell (BK276.out) 1).trans rfl⟩ (fun hHeld => ?_)
        clear hK K
        refine norm_ (a' := ?_) ?_ ?_
        rotate_left
        ·show Act.put _ (some 52) _ = _
         simp only [pt_,pn_,sI_,s0_,s1_,i64_w,i32_w]
         rfl
        refine pU_ 11 (some 53) (mk_ 13 4095) ?_
        refine last_ (i := 12) (N := none) #[true,true,true,true,true,true,true,true,true,true,true,true,true] rfl rfl (by kernel_rfl) (by decide) (fun K hK => ?_)
        have hsM : wP.cell? ⟨gM,(a2).toNat,none⟩ = some (.slice Ae (rd_L4 l0_0 a2).length ce) := (blk_cell BKM.out _).trans hkM.out
        have hfM := blk_frozen BKM.out (a2).toNat
        refine skip_ (w1 := ?_) (by rfl) rfl ?_ ?_
        rotate_left
        ·go_simp
         rfl
        refine hK.out _ _ ?_
        clear hK K
        refine done_ (by kernel_rfl) ?_
        have HSn := aM_ (HBK.out wP (.slice An yP.length cn) yP (fun k_ => w.heap.size ≤ k_ ∧ some k_ ≠ (.slice (some ⟨go10,0,none⟩) y268.length co10 : Value).ownBlock) HG.out HP.out (fun k hk => ⟨fun h => Nat.not_le.2 h.2 hk.1,fun e => absurd (e ▸ hk.1) (Nat.not_le.2 HGM.out)⟩))
        replace BK263 := aM_ (blk_far (p := ⟨gM,(a2).toNat,none⟩) BK263.out (by intro e_;have h_ := BK263.out;rw [show _ = gM from e_,BKM.out] at h_;simp at h_) (.slice An yP.length cn))
        replace BK264 := aM_ (blk_far (p := ⟨gM,(a2).toNat,none⟩) BK264.out (by intro e_;have h_ := BK264.out;rw [show _ = gM from e_,BKM.out] at h_;simp at h_) (.slice An yP.length cn))
        replace HO270 := aM_ (Kd.R_mono (Kd.R_far (p := ⟨gM,(a2).toNat,none⟩) (Kd.R_bound HO270.out) (fun k hk e => absurd hk.2.1 (Nat.not_le.2 (show k < w.heap.size from (show k = gM from e) ▸ HGM.out))) (.slice An yP.length cn)) (fun _ hk => hk.1))
        replace HKP := aM_ (HKP.out.setCell (p := ⟨gM,(a2).toNat,none⟩) (.inl ((Kd.S_R hS.out).1 gM rfl)) (.slice An yP.length cn))
        replace HBP : Aside0 (Below b0 w (wP.setCell ⟨gM,(a2).toNat,none⟩ (.slice An yP.length cn))) := ⟨HBP.out.setCell (Kd.S_base hS.out gM rfl) _⟩
        clear hsM hfM HG HP HBK HSe BKM hkM HOK HRW hHeld
        generalize (wP.setCell ⟨gM,(a2).toNat,none⟩ (.slice An yP.length cn)) = wQ at HSn HKP HBP BK263 BK264 HO270 ⊢
        have hcz66_0 : wQ.cell? ⟨gb263,0,none⟩ = some (.slice (some ⟨gM,0,none⟩) l0_0.length c0_0) := (blk_cell BK263.out 0).trans rfl
        have hfz66_0 := blk_frozen BK263.out 0
        have hcz67_0 : wQ.cell? ⟨gb264,0,none⟩ = some (.slice none 0 0) := (blk_cell BK264.out 0).trans rfl
        have hfz67_0 := blk_frozen BK264.out 0
        try go_wp2
        refine bodyPost_ret (results_ct rfl _ _ gb264 24 #[.slice (some ⟨gM,0,none⟩) l0_0.length c0_0] (0,0) _ rfl (by (with_reducible repeat (first | refine bN_ ?_ _ | refine bD_ ?_ | refine bA_ ?_ _));refine blk_put (cs := #[.slice none 0 0]) ?_ 0 _ rfl;exact rW_ BK264.out) Try.underlying24 rfl (by kernel_rfl)) rfl ?_
        exact ⟨_,_,by first | rfl | (simp [*];done),Kd.S_mono (Kd.S_set HSn.out BK264.out (by decide) 0 _) (fun k hk => hk.elim (fun h => ⟨.inl h.1,fun e => absurd (Kd.R_base HO270.out k e.symm) (Nat.not_le.2 h.2)⟩) (fun h => ⟨.inr h.1,h.2⟩)),Kd.R_mono (Kd.R_far (p := ⟨gb264,0,none⟩) (Kd.R_types HO270.out BK264.out (by decide)) (fun _ hk => hk.2) _) (fun _ hk => (by first | exact hk.1.1 | exact hk.1)),HBP.out.setCell (Nat.le_trans hb0w.out GE264.out) _,HKP.out.setCell (p := ⟨gb264,0,none⟩) (.inr GE264.out) _⟩
      ·rw [if_neg c12] at H
       exact absurd H (by simp)
     ·rw [if_neg c11] at H
      exact absurd H (by simp)
    ·rw [if_neg c9] at H
     exact absurd H (by simp)
   ·rw [if_neg c8] at H
    exact absurd H (by simp)
  ·rw [if_neg c7] at H
   exact absurd H (by simp)
 ·rw [if_neg c6] at H
  exact absurd H (by simp)
def spec_Store.j0 : Nat → List Int → Int → Int → Bool → Bool → List (List (S43)) → Option ((List (List (S43))) × List Int)
  | 0,_,_,_,_,_,_ => none
  | k + 1,x1,x2,x3,x4,x27,x286000 => if x27 = true then ((spec_l6Copy.f k x286000).bind fun t289 => ((some (([] : List Int) : List Int)).bind fun y292 => (if y292.length + x1.length < 17592186044416 then (some (t289,(y292 ++ x1))) else (none)))) else ((spec_l6Copy.f k x286000).bind fun t298 => ((spec_l6Store.f t298 x1 x2 x3 x4).bind fun bt301 => (some (bt301.1,bt301.2))))
def spec_Store.f (k : Nat) (l0_0 : List (List (S43))) (l1 : List Int) (a2 : Int) (a3 : Int) (a4 : Bool) : Option ((List (List (S43))) × List Int) := (spec_l6Right.f k l0_0 l1 a2).bind fun t287 => (if t287 = true then (if 0 ≤ a2 then (if a2 < (l0_0.length : Int) then (spec_Store.j0 k l1 a2 a3 a4 (((rd_L4 l0_0 a2).length : Int) == 4000) l0_0) else (none)) else (none)) else (spec_Store.j0 k l1 a2 a3 a4 true l0_0))
set_option maxHeartbeats 8000000 in
set_option maxRecDepth 100000 in
theorem spec_Store.callsS (k : Nat) (A0_0 : Option Addr) (c0_0 : Nat) (l0_0 : List (List (S43))) (A1 : Option Addr) (c1 : Nat) (l1 : List Int) (a2 : Int) (a3 : Int) (a4 : Bool) (r1 : List (List (S43))) (r2 : List Int) (w : World) (hr0_0 : Kd.C (Kd.slice 43 k43) w A0_0 l0_0.length l0_0) (hc0_0 : l0_0.length ≤ c0_0) (hr1 : Kd.C (Kd.int .i64) w A1 l1.length l1) (hc1 : l1.length ≤ c1) (h : spec_Store.f k l0_0 l1 a2 a3 a4 = some (r1,r2)) :
  Calls Try.prog 43 #[.agg #[.slice A0_0 l0_0.length c0_0],.slice A1 l1.length c1,.int .i64 a2,.int .i64 a3,.bool a4] w fun e w' => ∃ v0_ v1_ : Value,e = .returned (.tuple #[.agg #[v0_],v1_]) ∧ Kd.S (sslice 43 k43) 44 w' w.heap.size (fun k_ => (w.heap.size ≤ k_) ∧ some k_ ≠ (v1_ : Value).ownBlock) v0_ r1 ∧ Kd.R (Kd.int .i64) 3 w' w.heap.size (fun k_ => (w.heap.size ≤ k_)) v1_ r2 ∧ Below w.heap.size w w' := by
 have hu24 := Try.underlying24
 have HR0_0 := Aside0.mk hr0_0
 have HC0_0 := Aside0.mk hc0_0
 clear hr0_0 hc0_0
 have HR1 := Aside0.mk hr1
 have HC1 := Aside0.mk hc1
 clear hr1 hc1
 have HB := Aside0.mk (Below.refl w.heap.size w)
 have H : ((spec_l6Right.f k l0_0 l1 a2).bind fun t287 => (if t287 = true then (if 0 ≤ a2 then (if a2 < (l0_0.length : Int) then (spec_Store.j0 k l1 a2 a3 a4 (((rd_L4 l0_0 a2).length : Int) == 4000) l0_0) else (none)) else (none)) else (spec_Store.j0 k l1 a2 a3 a4 true l0_0))) = some (r1,r2) := h
 clear h
 have HC6 := Aside0.mk H
 clear H
 go_enter Try.func43,Try.ntmps43
 go_upto_region 1 with (first | ((with_reducible refine gate_dst (N := 5) rfl ?_);(try (refine gate_guard (by rfl) ?_;dsimp only));refine bX_ 5 (cs := #[.slice A0_0 l0_0.length c0_0]) (t := 24) ?_;intro gb285 hg w7 hbox hb;have n0_ := Aside0.mk (sT_ HB.out hb);have n1_ := Aside0.mk (hbox);have n2_ := Aside0.mk (sZ_ hg HB.out);have n3_ := Aside0.mk (sZ_ hg HB.out);clear HB;have HB := n0_;have BK285 := n1_;have GW285 := n2_;have GE285 := n3_;clear n0_ n1_ n2_ n3_;clear hb hbox hg) | ((with_reducible refine gate_dst (N := 10) rfl ?_);(try (refine gate_guard (by rfl) ?_;dsimp only));refine bX_ 10 (cs := #[.slice none 0 0]) (t := 24) ?_;intro gb286 hg w8 hbox hb;have n0_ := Aside0.mk (nB_ BK285.out hb);have n1_ := Aside0.mk (sT_ HB.out hb);have n2_ := Aside0.mk (hbox);have n3_ := Aside0.mk (sZ_ hg HB.out);have n4_ := Aside0.mk (sZ_ hg HB.out);have n5_ := Aside0.mk (nL_ hg BK285.out);have n6_ := Aside0.mk (nG_ hg BK285.out);clear BK285;clear HB;have BK285 := n0_;have HB := n1_;have BK286 := n2_;have GW286 := n3_;have GE286 := n4_;have NB285_286 := n5_;have NB286_285 := n6_;clear n0_ n1_ n2_ n3_ n4_ n5_ n6_;clear hb hbox hg))
 (try simp only [Act.put,List.setIfInBounds_toArray,List.set_cons_zero,List.set_cons_succ])
 go_cut [27] (fun v27 wc => ∃ (kq : Nat) (x27_5 : Bool),v27 = .bool x27_5 ∧ Aside0 (spec_Store.j0 kq l1 a2 a3 a4 x27_5 l0_0 = some (r1,r2)) ∧ Aside0 (kq ≤ k) ∧ Aside0 (wc.heap[gb285]? = some (.cells #[(.slice A0_0 l0_0.length c0_0)] 24 (0,0))) ∧ Aside0 (wc.heap[gb286]? = some (.cells #[(.slice none 0 0)] 24 (0,0))) ∧ Aside0 (Below w.heap.size w wc))
 case first =>
  have H := HC6.out
  clear HC6
  replace H := Option.bind_eq_some_iff.mp H
  obtain ⟨t287,A90,H⟩ := H
  replace H : (if t287 = true then (if 0 ≤ a2 then (if a2 < (l0_0.length : Int) then (spec_Store.j0 k l1 a2 a3 a4 (((rd_L4 l0_0 a2).length : Int) == 4000) l0_0) else (none)) else (none)) else (spec_Store.j0 k l1 a2 a3 a4 true l0_0)) = some (r1,r2) := H
  have A9 := Aside0.mk A90
  clear A90
  by_cases c10 : t287 = true
  ·subst c10
   have H1 : (if 0 ≤ a2 then (if a2 < (l0_0.length : Int) then (spec_Store.j0 k l1 a2 a3 a4 (((rd_L4 l0_0 a2).length : Int) == 4000) l0_0) else (none)) else (none)) = some (r1,r2) := by rw [if_pos rfl] at H;exact H
   clear H
   have H := H1
   clear H1
   by_cases c11 : 0 ≤ a2
   ·rw [if_pos c11] at H
    have c11b0 : decide (0 ≤ a2) = true := decide_eq_true c11
    clear c11
    (first | rw [c11b0] | (simp only [i64_w,i32_w];rw [c11b0]) | skip)
    by_cases c12 : a2 < (l0_0.length : Int)
    ·rw [if_pos c12] at H
     have c12b0 : decide (a2 < (l0_0.length : Int)) = true := decide_eq_true c12
     clear c12
     have H' := Aside0.mk H
     clear H
     have hnb13 := NB285_286.out
     have hnc13 := NB286_285.out
     have hcz14_0 : w8.cell? ⟨gb285,0,none⟩ = some (.slice A0_0 l0_0.length c0_0) := (blk_cell BK285.out 0).trans rfl
     have hfz14_0 := blk_frozen BK285.out 0
     go_wp2_with (first | ((with_reducible refine gate_callee (f := 61) rfl ?_);refine gL_ (some 17) Try.func61 #[.agg #[.slice A0_0 l0_0.length c0_0],.slice A1 l1.length c1,.int .i64 a2] ?_;(with_reducible refine (spec_l6Right.calls k _ _ l0_0 _ _ l1 a2 true _ ?side1 ?side2 ?side3 ?side4 A9.out).mono ?_);(case side1 => exact cS_ (Kd.C_below HR0_0.out HB.out));(case side2 => exact HC0_0.out);(case side3 => exact cS_ (Kd.C_below HR1.out HB.out));(case side4 => exact HC1.out);rintro e w15 ⟨rfl,hb⟩;refine ⟨_,rfl,?_⟩;have n0_ := Aside0.mk (nB_ BK285.out hb);have n1_ := Aside0.mk (nB_ BK286.out hb);have n2_ := Aside0.mk (sT_ HB.out hb);clear BK285;clear BK286;clear HB;have BK285 := n0_;have BK286 := n1_;have HB := n2_;clear n0_ n1_ n2_;(try clear hb);(try clear hb2);(try clear hk);(try clear hi);have hcz16_0 : w15.cell? ⟨gb285,0,none⟩ = some (.slice A0_0 l0_0.length c0_0) := (blk_cell BK285.out 0).trans rfl;have hfz16_0 := blk_frozen BK285.out 0;have p288 : 0 ≤ (a2 : Int) := of_decide_eq_true (by first | (with_reducible assumption) | assumption);have q288 : a2 < (l0_0.length : Int) := of_decide_eq_true (by first | (with_reducible assumption) | assumption);obtain ⟨ad288,A288_0,c288_0,e288,hx288_0,hl288_0,hi288_0⟩ := at_L4 HR0_0.out a2 p288 q288;cases e288;replace hx288_0 := cB_ HB.out hx288_0;have HR288_0 := Aside0.mk hi288_0;have HC288_0 := Aside0.mk hl288_0;clear hi288_0 hl288_0;replace p288 := eq_true p288;replace q288 := eq_true q288))
     go_meet
     case rel => exact ⟨_,((((rd_L4 l0_0 a2).length : Int) == 4000)),(by first | rfl | (simp;done) | (simp [*];done)),H',⟨by first | omega | exact Nat.le_refl _⟩,⟨rW_ BK285.out⟩,⟨rW_ BK286.out⟩,⟨gW_ HB.out⟩⟩
    ·rw [if_neg c12] at H
     exact absurd H (by simp)
   ·rw [if_neg c11] at H
    exact absurd H (by simp)
  ·replace c10 := Bool.eq_false_iff.mpr c10
   subst c10
   have H1 : (spec_Store.j0 k l1 a2 a3 a4 true l0_0) = some (r1,r2) := by rw [if_neg (show ¬ (false = true) by decide)] at H;exact H
   clear H
   have H := H1
   clear H1
   have H' := Aside0.mk H
   clear H
   have hnb17 := NB285_286.out
   have hnc17 := NB286_285.out
   have hcz18_0 : w8.cell? ⟨gb285,0,none⟩ = some (.slice A0_0 l0_0.length c0_0) := (blk_cell BK285.out 0).trans rfl
   have hfz18_0 := blk_frozen BK285.out 0
   go_wp2_with (first | ((with_reducible refine gate_callee (f := 61) rfl ?_);refine gL_ (some 17) Try.func61 #[.agg #[.slice A0_0 l0_0.length c0_0],.slice A1 l1.length c1,.int .i64 a2] ?_;(with_reducible refine (spec_l6Right.calls k _ _ l0_0 _ _ l1 a2 false _ ?side1 ?side2 ?side3 ?side4 A9.out).mono ?_);(case side1 => exact cS_ (Kd.C_below HR0_0.out HB.out));(case side2 => exact HC0_0.out);(case side3 => exact cS_ (Kd.C_below HR1.out HB.out));(case side4 => exact HC1.out);rintro e w19 ⟨rfl,hb⟩;refine ⟨_,rfl,?_⟩;have n0_ := Aside0.mk (nB_ BK285.out hb);have n1_ := Aside0.mk (nB_ BK286.out hb);have n2_ := Aside0.mk (sT_ HB.out hb);clear BK285;clear BK286;clear HB;have BK285 := n0_;have BK286 := n1_;have HB := n2_;clear n0_ n1_ n2_;(try clear hb);(try clear hb2);(try clear hk);(try clear hi)))
   go_meet
   case rel => exact ⟨_,(true),(by first | rfl | (simp;done) | (simp [*];done)),H',⟨by first | omega | exact Nat.le_refl _⟩,⟨rW_ BK285.out⟩,⟨rW_ BK286.out⟩,⟨gW_ HB.out⟩⟩
 case rest =>
  clear HC6
  try clear c1
  try clear c2
  try clear p2
  try clear q2
  try clear hx2
  try clear c4
  try clear c6
  try clear c10
  try clear c11
  try clear c11b0
  try clear c12
  try clear c12b0
  try clear c13
  try clear c17
  try clear hcz14_0 hfz14_0
  try clear hcz16_0 hfz16_0
  try clear hcz18_0 hfz18_0
  try clear hx288_0
  try clear p288
  try clear q288
  obtain ⟨kq,x27_5,rfl,HA,HJ5,BK285,BK286,HB⟩ := hcut
  cases kq with
  | zero => exact absurd HA.out (by simp [spec_Store.j0])
  | succ kj5 =>
   have H := HA.out
   clear HA
   simp only [spec_Store.j0] at H
   by_cases c20 : x27_5 = true
   ·subst c20
    have H1 : ((spec_l6Copy.f kj5 l0_0).bind fun t289 => ((some (([] : List Int) : List Int)).bind fun y292 => (if y292.length + l1.length < 17592186044416 then (some (t289,(y292 ++ l1))) else (none)))) = some (r1,r2) := by rw [if_pos rfl] at H;exact H
    clear H
    have H := H1
    clear H1
    replace H := Option.bind_eq_some_iff.mp H
    obtain ⟨t289,A210,H⟩ := H
    replace H : ((some (([] : List Int) : List Int)).bind fun y292 => (if y292.length + l1.length < 17592186044416 then (some (t289,(y292 ++ l1))) else (none))) = some (r1,r2) := H
    have A21 := Aside0.mk A210
    clear A210
    obtain ⟨y292,hy292⟩ : ∃ y_ : List Int,y_ = (([] : List Int)) := ⟨_,rfl⟩
    replace H : (if y292.length + l1.length < 17592186044416 then (some (t289,(y292 ++ l1))) else (none)) = some (r1,r2) := by first | (rw [hy292];with_reducible exact H) | (have H2_ := (Option.bind_some _ _).symm.trans H;rw [hy292];with_reducible exact H2_) | (have H2_ := (Option.bind_some _ _).symm.trans H;with_reducible exact H2_) | with_reducible exact H | (rw [hy292];exact H) | exact H
    have Ny292 := Aside0.mk hy292
    clear hy292
    by_cases c22 : y292.length + l1.length < 17592186044416
    ·rw [if_pos c22] at H
     have LMc22 := Aside0.mk c22
     clear c22
     obtain ⟨y295,hy295⟩ : ∃ y_ : List Int,y_ = (y292 ++ l1) := ⟨_,rfl⟩
     replace H : (some (t289,y295)) = some (r1,r2) := by first | (rw [hy295];with_reducible exact H) | (have H2_ := (Option.bind_some _ _).symm.trans H;rw [hy295];with_reducible exact H2_) | (have H2_ := (Option.bind_some _ _).symm.trans H;with_reducible exact H2_) | with_reducible exact H | (rw [hy295];exact H) | exact H
     have Ny295 := Aside0.mk hy295
     clear hy295
     simp only [Option.some.injEq,Prod.mk.injEq] at H
     obtain ⟨rfl,rfl⟩ := H
     have hnb23 := NB285_286.out
     have hnc23 := NB286_285.out
     have hcz24_0 : wc.cell? ⟨gb285,0,none⟩ = some (.slice A0_0 l0_0.length c0_0) := (blk_cell BK285.out 0).trans rfl
     have hfz24_0 := blk_frozen BK285.out 0
     go_wp2_with (first | ((with_reducible refine gate_callee (f := 85) rfl ?_);refine gL_ (some 29) Try.func85 #[.agg #[.slice A0_0 l0_0.length c0_0]] ?_;(with_reducible refine (spec_l6Copy.calls kj5 _ _ l0_0 t289 _ ?side1 ?side2 A21.out).mono ?_);(case side1 => exact cS_ (Kd.C_below HR0_0.out HB.out));(case side2 => exact HC0_0.out);rintro e w25 ⟨v290,rfl,ho0,hb⟩;refine ⟨_,rfl,?_⟩;have n0_ := Aside0.mk (Kd.S_lower (Kd.S_newM (M := fun k_ => (w.heap.size ≤ k_)) ho0 (below_size (gB_ HB.out)) (fun k_ h_ => h_)) (below_size (gB_ HB.out)));have n1_ := Aside0.mk (nB_ BK285.out hb);have n2_ := Aside0.mk (nB_ BK286.out hb);have n3_ := Aside0.mk (sT_ HB.out hb);clear BK285;clear BK286;clear HB;have HO291 := n0_;have BK285 := n1_;have BK286 := n2_;have HB := n3_;clear n0_ n1_ n2_ n3_;(try clear hb);(try clear hb2);(try clear hk);(try clear hi);(try clear ho0)) | ((with_reducible refine gate_dst (N := 30) rfl ?_);(try (refine gate_guard (by rfl) ?_;dsimp only));refine Kd.R_lit (Kd.int .i64) _ 3 ?hg (N := 30) ?hd (xs := ([] : List Int)) (inner := []) (ok := fun _ => True) (okp := fun _ => True) ?hr ?hp (fun _ hk => hk) trivial (Below.refl _ _) (Nat.le_refl _) (by simp) ?_;(case hd => rfl);(case hg => rfl);(case hr => first | (go_simp;done) | (go_simp;rfl));(case hp => exact (Reps.none _ _));intro v293 w26 ho27 hb hg_ hnew_;clear hg_ hnew_;(first | rw [← Ny292.out] at ho27 | (simp only [Int.reduceToNat] at ho27;rw [← Ny292.out] at ho27));have n0_ := Aside0.mk (Kd.S_elder' (by (with_reducible repeat (first | apply Kd.S_alloc | apply Kd.S_drewN | apply Kd.S_drew));exact HO291.out) (Kd.R_base ho27) hb);have n1_ := Aside0.mk (Kd.R_lower (Kd.R_newM (M := fun k_ => (w.heap.size ≤ k_)) ho27 (below_size (gB_ HB.out)) (fun k_ h_ => h_)) (below_size (gB_ HB.out)));have n2_ := Aside0.mk (nB_ BK285.out hb);have n3_ := Aside0.mk (nB_ BK286.out hb);have n4_ := Aside0.mk (sT_ HB.out hb);clear HO291;clear BK285;clear BK286;clear HB;have HO291 := n0_;have HO294 := n1_;have BK285 := n2_;have BK286 := n3_;have HB := n4_;clear n0_ n1_ n2_ n3_ n4_;clear hb ho27) | ((with_reducible refine gate_builtin (b := .append) (xs := #[.tmp 30,.tmp 31]) rfl ?_);(try (refine gate_guard (by rfl) ?_;dsimp only));at_builtin;refine Kd.R_append_rows (Kd.int .i64) (w0 := w) w.heap.size rfl (.tmp 30) (.tmp 31) 31 3 (.int .i64 0) 8 rfl Try.underlying31 info3 rfl (by decide) (by omega) v293 y292 l1 _ _ _ (fun k_ => (w.heap.size ≤ k_)) (fun _ => False) rfl rfl ?aO ?aR (fun _ _ h => h) (fun _ h => h.elim) ?aF ?aB ?aS ?aL ?_;(case aR => repeat (first | exact (Kd.C_below HR1.out HB.out) | (with_reducible refine Kd.C_alloc ?_ _) | (with_reducible refine Kd.C_drewN ?_ _) | (with_reducible refine Kd.C_drew ?_)));(case aB => exact (gB_ HB.out));(case aF => exact (fun k_ hk => (Nat.le_trans (below_size (gB_ HB.out)) hk)));(case aO => exact (by (with_reducible repeat (first | apply Kd.R_alloc | apply Kd.R_drewN | apply Kd.R_drew));exact Kd.R_mono HO294.out (fun _ hk => hk.1)));(case aS => exact (below_size (gB_ HB.out)));(case aL => have := LMc22.out;omega);intro v296 w28 ho hb hg hat;rw [← Ny295.out] at ho;have n0_ := Aside0.mk (blk_grown (g := gb285) (o := .cells #[.slice A0_0 l0_0.length c0_0] 24 (0,0)) (by (with_reducible repeat (first | refine blk_drewN ?_ _ | refine blk_drew ?_ | refine blk_alloc ?_ _));exact BK285.out) hg (Kd.R_ne HO294.out BK285.out (by decide)));have n1_ := Aside0.mk (blk_grown (g := gb286) (o := .cells #[.slice none 0 0] 24 (0,0)) (by (with_reducible repeat (first | refine blk_drewN ?_ _ | refine blk_drew ?_ | refine blk_alloc ?_ _));exact BK286.out) hg (Kd.R_ne HO294.out BK286.out (by decide)));have n2_ := Aside0.mk (Kd.S_after (ok := (fun k_ => (w.heap.size ≤ k_))) (by (with_reducible repeat (first | apply Kd.S_alloc | apply Kd.S_drewN | apply Kd.S_drew));exact Kd.S_mono HO291.out (fun _ hk => ⟨hk.1.1,hk.2⟩)) hg hat);have n3_ := Aside0.mk (hb);have n4_ := Aside0.mk (ho);clear BK285;clear BK286;clear HO291;clear HB;clear HO294;have BK285 := n0_;have BK286 := n1_;have HO291 := n2_;have HB := n3_;have HO297 := n4_;clear n0_ n1_ n2_ n3_ n4_;clear ho hb hg hat;obtain ⟨Ao29,co29,eo29⟩ := Kd.S_slice HO291.out;subst eo29;have hcz30_0 : w28.cell? ⟨gb286,0,none⟩ = some (.slice none 0 0) := (blk_cell BK286.out 0).trans rfl;have hfz30_0 := blk_frozen BK286.out 0))
     refine bodyPost_ret (results_ct rfl _ _ gb286 24 #[.slice Ao29 t289.length co29] (0,0) _ rfl (by (with_reducible repeat (first | refine blk_drewN ?_ _ | refine blk_drew ?_ | refine blk_alloc ?_ _));refine blk_put (cs := #[.slice none 0 0]) ?_ 0 _ rfl;exact rW_ BK286.out) Try.underlying24 rfl (by kernel_rfl)) rfl ?_
     exact ⟨_,_,fR_,(by (with_reducible repeat (first | apply Kd.S_alloc | apply Kd.S_drewN | apply Kd.S_drew));exact Kd.S_mono (Kd.S_far (p := ⟨gb286,0,none⟩) (Kd.S_types HO291.out BK286.out (by decide)) (fun _ hk => hk.2) (.slice Ao29 t289.length co29)) (fun _ hk => ⟨hk.1.1,hk.1.2⟩)),by (with_reducible repeat (first | apply Kd.R_alloc | apply Kd.R_drewN | apply Kd.R_drew));exact Kd.R_mono (Kd.R_far (p := ⟨gb286,0,none⟩) (Kd.R_types HO297.out BK286.out (by decide)) (fun _ hk => hk.2) (.slice Ao29 t289.length co29)) (fun _ hk => hk.1),gB_ HB.out⟩
    ·rw [if_neg c22] at H
     exact absurd H (by simp)
   ·replace c20 := Bool.eq_false_iff.mpr c20
    subst c20
    have H1 : ((spec_l6Copy.f kj5 l0_0).bind fun t298 => ((spec_l6Store.f t298 l1 a2 a3 a4).bind fun bt301 => (some (bt301.1,bt301.2)))) = some (r1,r2) := by rw [if_neg (show ¬ (false = true) by decide)] at H;exact H
    clear H
    have H := H1
    clear H1
    replace H := Option.bind_eq_some_iff.mp H
    obtain ⟨t298,A310,H⟩ := H
    replace H : ((spec_l6Store.f t298 l1 a2 a3 a4).bind fun bt301 => (some (bt301.1,bt301.2))) = some (r1,r2) := H
    have A31 := Aside0.mk A310
    clear A310
    replace H := Option.bind_eq_some_iff.mp H
    obtain ⟨⟨t301,t304⟩,A320,H⟩ := H
    replace H : (some (t301,t304)) = some (r1,r2) := H
    have A32 := Aside0.mk A320
    clear A320
    simp only [Option.some.injEq,Prod.mk.injEq] at H
    obtain ⟨rfl,rfl⟩ := H
    have hnb33 := NB285_286.out
    have hnc33 := NB286_285.out
    have hcz34_0 : wc.cell? ⟨gb285,0,none⟩ = some (.slice A0_0 l0_0.length c0_0) := (blk_cell BK285.out 0).trans rfl
    have hfz34_0 := blk_frozen BK285.out 0
    go_wp2_with (first | ((with_reducible refine gate_callee (f := 85) rfl ?_);refine gL_ (some 35) Try.func85 #[.agg #[.slice A0_0 l0_0.length c0_0]] ?_;(with_reducible refine (spec_l6Copy.calls kj5 _ _ l0_0 t298 _ ?side1 ?side2 A31.out).mono ?_);(case side1 => exact cS_ (Kd.C_below HR0_0.out HB.out));(case side2 => exact HC0_0.out);rintro e w35 ⟨v299,rfl,ho0,hb⟩;refine ⟨_,rfl,?_⟩;have n0_ := Aside0.mk (Kd.S_lower (Kd.S_newM (M := fun k_ => (w.heap.size ≤ k_)) ho0 (below_size (gB_ HB.out)) (fun k_ h_ => h_)) (below_size (gB_ HB.out)));have n1_ := Aside0.mk (nB_ BK285.out hb);have n2_ := Aside0.mk (nB_ BK286.out hb);have n3_ := Aside0.mk (sT_ HB.out hb);clear BK285;clear BK286;clear HB;have HO300 := n0_;have BK285 := n1_;have BK286 := n2_;have HB := n3_;clear n0_ n1_ n2_ n3_;(try clear hb);(try clear hb2);(try clear hk);(try clear hi);(try clear ho0);obtain ⟨Ao36,co36,eo36⟩ := Kd.S_slice HO300.out;subst eo36) | ((with_reducible refine gate_callee (f := 86) rfl ?_);refine gL_ (some 40) Try.func86 #[.agg #[.slice Ao36 t298.length co36],.slice A1 l1.length c1,.int .i64 a2,.int .i64 a3,.bool a4] ?_;(with_reducible refine (spec_l6Store.calls (fun k_ => ((((w.heap.size ≤ k_) ∧ True) ∧ k_ ≠ gb285) ∧ k_ ≠ gb286)) _ _ t298 _ _ l1 a2 a3 a4 t301 t304 w.heap.size _ ?side1 ?sideB ?side2 ?side3 A32.out).mono ?_);(case side1 => exact (Kd.S_types (Kd.S_types (HO300.out) BK285.out (by decide)) BK286.out (by decide)));(case sideB => exact (below_size (gB_ HB.out)));(case side2 => exact cS_ (Kd.C_below HR1.out HB.out));(case side3 => exact HC1.out);rintro e w37 ⟨v302,v305,rfl,ho0,ho1,hb,hk_⟩;refine ⟨_,rfl,?_⟩;have n0_ := Aside0.mk trivial;have n1_ := Aside0.mk (Kd.S_lower (Kd.S_mono (ok' := fun k_ => (w.heap.size ≤ k_) ∧ some k_ ≠ (v305 : Value).ownBlock ∧ k_ ≠ gb285 ∧ k_ ≠ gb286) ho0 (fun k_ hk_ => ⟨Or.elim hk_.1 (fun hs_ => hs_.1.1.1) (fun hn_ => (Nat.le_trans (below_size (gB_ HB.out)) hn_)),hk_.2,Or.elim hk_.1 (fun hs_ => hs_.1.2) (fun hn_ => (Kd.freshB (g := gb285) (o := .cells #[.slice A0_0 l0_0.length c0_0] 24 (0,0)) (by (with_reducible repeat (first | refine blk_drewN ?_ _ | refine blk_drew ?_ | refine blk_alloc ?_ _));exact BK285.out) k_ hn_)),Or.elim hk_.1 (fun hs_ => hs_.2) (fun hn_ => (Kd.freshB (g := gb286) (o := .cells #[.slice none 0 0] 24 (0,0)) (by (with_reducible repeat (first | refine blk_drewN ?_ _ | refine blk_drew ?_ | refine blk_alloc ?_ _));exact BK286.out) k_ hn_))⟩)) (Nat.le_refl _));have n2_ := Aside0.mk (Kd.R_lower (Kd.R_newM (M := fun k_ => (w.heap.size ≤ k_)) (Kd.R_mono (ok' := fun k_ => True) ho1 (fun _ hk_ => trivial)) (below_size (gB_ HB.out)) (fun k_ h_ => h_)) (below_size (gB_ HB.out)));have n3_ := Aside0.mk (blk_kept (g := gb285) (o := .cells #[.slice A0_0 l0_0.length c0_0] 24 (0,0)) (by (with_reducible repeat (first | refine blk_drewN ?_ _ | refine blk_drew ?_ | refine blk_alloc ?_ _));exact BK285.out) hk_ (fun h_ => absurd rfl (by first | exact h_.2 | exact h_.1.2 | exact h_.1.1.2 | exact h_.1.1.1.2)));have n4_ := Aside0.mk (blk_kept (g := gb286) (o := .cells #[.slice none 0 0] 24 (0,0)) (by (with_reducible repeat (first | refine blk_drewN ?_ _ | refine blk_drew ?_ | refine blk_alloc ?_ _));exact BK286.out) hk_ (fun h_ => absurd rfl (by first | exact h_.2 | exact h_.1.2 | exact h_.1.1.2 | exact h_.1.1.1.2)));have n5_ := Aside0.mk (Below.trans (gB_ HB.out) hb);clear HO300;clear BK285;clear BK286;clear HB;have HO300 := n0_;have HO303 := n1_;have HO306 := n2_;have BK285 := n3_;have BK286 := n4_;have HB := n5_;clear n0_ n1_ n2_ n3_ n4_ n5_;(try clear hb);(try clear hk_);(try clear hb2);(try clear hk);(try clear hi);(try clear ho0);(try clear ho1)) | ((with_reducible refine gate_dst (N := 12) rfl ?_);(try (refine gate_guard (by rfl) ?_;dsimp only));refine bX_ 12 (cs := #[.slice none 0 0]) (t := 24) ?_;intro gb307 hg w38 hbox hb;have n0_ := Aside0.mk trivial;have n1_ := Aside0.mk (Kd.S_below (Kd.S_elderB (by (with_reducible repeat (first | apply Kd.S_alloc | apply Kd.S_drewN | apply Kd.S_drew));exact HO303.out) gb307 (Nat.le_of_eq hg.symm)) hb);have n2_ := Aside0.mk (bR_ HO306.out hb);have n3_ := Aside0.mk (nB_ BK285.out hb);have n4_ := Aside0.mk (nB_ BK286.out hb);have n5_ := Aside0.mk (sT_ HB.out hb);have n6_ := Aside0.mk (hbox);have n7_ := Aside0.mk (sZ_ hg HB.out);have n8_ := Aside0.mk (sZ_ hg HB.out);have n9_ := Aside0.mk (nL_ hg BK285.out);have n10_ := Aside0.mk (nG_ hg BK285.out);have n11_ := Aside0.mk (nL_ hg BK286.out);have n12_ := Aside0.mk (nG_ hg BK286.out);clear HO300;clear HO303;clear HO306;clear BK285;clear BK286;clear HB;have HO300 := n0_;have HO303 := n1_;have HO306 := n2_;have BK285 := n3_;have BK286 := n4_;have HB := n5_;have BK307 := n6_;have GW307 := n7_;have GE307 := n8_;have NB285_307 := n9_;have NB307_285 := n10_;have NB286_307 := n11_;have NB307_286 := n12_;clear n0_ n1_ n2_ n3_ n4_ n5_ n6_ n7_ n8_ n9_ n10_ n11_ n12_;clear hb hbox hg;obtain ⟨Ao39,co39,eo39⟩ := Kd.S_slice HO303.out;subst eo39;have hnb40 := NB307_285.out;have hnc40 := NB285_307.out;have hnb41 := NB307_286.out;have hnc41 := NB286_307.out;have hcz42_0 : w38.cell? ⟨gb307,0,none⟩ = some (.slice none 0 0) := (blk_cell BK307.out 0).trans rfl;have hfz42_0 := blk_frozen BK307.out 0;have hcz43_0 : w38.cell? ⟨gb286,0,none⟩ = some (.slice none 0 0) := (blk_cell BK286.out 0).trans rfl;have hfz43_0 := blk_frozen BK286.out 0))
    refine bodyPost_ret (results_ct rfl _ _ gb286 24 #[.slice Ao39 t301.length co39] (0,0) _ rfl (by (with_reducible repeat (first | refine blk_drewN ?_ _ | refine blk_drew ?_ | refine blk_alloc ?_ _));refine blk_put (cs := #[.slice none 0 0]) ?_ 0 _ rfl;exact rWf_ BK286.out) Try.underlying24 rfl (by kernel_rfl)) rfl ?_
    exact ⟨_,_,fR_,by (with_reducible repeat (first | apply Kd.S_alloc | apply Kd.S_drewN | apply Kd.S_drew));exact Kd.S_mono (Kd.S_far (p := ⟨gb286,0,none⟩) (Kd.S_far (p := ⟨gb307,0,none⟩) (Kd.S_mono (Kd.S_mono HO303.out (fun k_ hk => (⟨hk,hk.2⟩ : _ ∧ k_ ≠ gb307))) (fun k_ hk => (⟨hk,hk.1.1.2.2.2⟩ : _ ∧ k_ ≠ gb286))) (fun _ hk => hk.1.2) (.slice Ao39 t301.length co39)) (fun _ hk => hk.2) (.slice Ao39 t301.length co39)) (fun _ hk => ⟨hk.1.1.1.1,hk.1.1.1.2.1⟩),by (with_reducible repeat (first | apply Kd.R_alloc | apply Kd.R_drewN | apply Kd.R_drew));exact Kd.R_mono (Kd.R_far (p := ⟨gb286,0,none⟩) (Kd.R_far (p := ⟨gb307,0,none⟩) (Kd.R_types (Kd.R_types HO306.out BK307.out (by decide)) BK286.out (by decide)) (fun _ hk => hk.1.2) (.slice Ao39 t301.length co39)) (fun _ hk => hk.2) (.slice Ao39 t301.length co39)) (fun _ hk => hk.1.1.1),gB_ HB.out⟩
end Go.Proofs.Ythbcnakmnbilhaa.PFnLoad
