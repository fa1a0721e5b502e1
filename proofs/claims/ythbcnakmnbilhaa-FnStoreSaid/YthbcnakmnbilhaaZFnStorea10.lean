/- A part of the proof that the law FnStore holds for every input: the words, functions and walks that its row needs, without a condition of their own. -/
import Derived.Test.YthbcnakmnbilhaaZFnStorea2
import Derived.Test.YthbcnakmnbilhaaZFnStorea3
import Derived.Test.YthbcnakmnbilhaaZFnStorea8
import Derived.Test.YthbcnakmnbilhaaZFnStorea9
import Derived.Test.YthbcnakmnbilhaaZFnStores
namespace Go.Proofs.Ythbcnakmnbilhaa.PFnStore
open Go.RowKit Go.Proofs.YthbcnakmnbilhaaW.PrintWords Go.Proofs.YthbcnakmnbilhaaW.PrintLast Go.Proofs.YthbcnakmnbilhaaW.PrintMore Go.Proofs.Ythbcnakmnbilhaa.SepMark
attribute [local go_sem] max2_int min2_int max_two min_two max_three min_three max_four min_four   -- for this text's walks alone
set_option linter.unusedVariables false
set_option linter.unusedSimpArgs false
def spec_l6Store.f (l0_0 : List (List (S43))) (l1 : List Int) (a2 : Int) (a3 : Int) (a4 : Bool) : Option ((List (List (S43))) × List Int) := (some (([] : List Int) : List Int)).bind fun y317 => (if y317.length + l1.length < 17592186044416 then ((some (y317 ++ l1 : List Int)).bind fun y320 => (if 0 ≤ a2 then (if a2 < (l0_0.length : Int) then (if a2 < (y320.length : Int) then ((some (y320.set (a2 : Int).toNat ((rd_L4 l0_0 a2).length : Int) : List Int)).bind fun y324 => (if 24 ≤ 35184372088832 then (if a2 < ((List.replicate 24 0).length : Int) then (if a4 = true then (if (([] : List Int)).length + y324.length < 17592186044416 then (if (rd_L4 l0_0 a2).length < 4398046511104 then (some (l0_0.set (a2 : Int).toNat (rd_L4 l0_0 a2 ++ [(⟨a3,(([] : List Int)) ++ y324⟩ : S43)]),y324)) else (none)) else (none)) else (if (rd_L4 l0_0 a2).length < 4398046511104 then (some (l0_0.set (a2 : Int).toNat (rd_L4 l0_0 a2 ++ [(⟨a3,(List.replicate 24 0).set (a2 : Int).toNat (rd y324 a2)⟩ : S43)]),y324)) else (none))) else (none)) else (none))) else (none)) else (none)) else (none))) else (none))
def spec_l6Store.T4 : Bool × List (List Nat × List Nat) := (true,[([],[]),([0],[0]),([],[]),([],[]),([],[]),([3,4],[3,4]),([5],[5]),([1,2,0,1,2,3,4,5,6],[1,2]),([7,6,0,1,2,3,4,5,6],[6,7])])
def spec_l6Store.B4 : List Nat := [0,1,0,0,0,24,56,127,255]
theorem spec_l6Store.tab4 : rtab .any (opsOf Try.f86 4) = spec_l6Store.T4 := by kernel_rfl
theorem spec_l6Store.bits4 : waitsOk spec_l6Store.T4.2 spec_l6Store.B4 = true := by kernel_rfl
set_option maxHeartbeats 8000000 in
set_option maxRecDepth 100000 in
theorem spec_l6Store.calls (P0_0_ : Nat → Prop) (A0_0 : Option Addr) (c0_0 : Nat) (l0_0 : List (List (S43))) (A1 : Option Addr) (c1 : Nat) (l1 : List Int) (a2 : Int) (a3 : Int) (a4 : Bool) (r1 : List (List (S43))) (r2 : List Int) (b0 : Nat) (w : World) (hS0 : Kd.S (sslice 43 k43) 44 w b0 P0_0_ (.slice A0_0 l0_0.length c0_0) l0_0) (hb0 : b0 ≤ w.heap.size) (hr1 : Kd.C (Kd.int .i64) w A1 l1.length l1) (hc1 : l1.length ≤ c1) (h : spec_l6Store.f l0_0 l1 a2 a3 a4 = some (r1,r2)) :
  Calls Try.prog 86 #[.agg #[.slice A0_0 l0_0.length c0_0],.slice A1 l1.length c1,.int .i64 a2,.int .i64 a3,.bool a4] w fun e w' => ∃ v0_ v1_ : Value,e = .returned (.tuple #[.agg #[v0_],v1_]) ∧ Kd.S (sslice 43 k43) 44 w' b0 (fun k_ => (P0_0_ k_ ∨ w.heap.size ≤ k_) ∧ some k_ ≠ (v1_ : Value).ownBlock) v0_ r1 ∧ Kd.R (Kd.int .i64) 3 w' w.heap.size (fun k_ => (w.heap.size ≤ k_)) v1_ r2 ∧ Below b0 w w' ∧ Kept w w' P0_0_ := by
 have hs0_0 : Kd.V (Kd.slice 43 k43) 44 w w.heap.size (fun k_ => P0_0_ k_) (.slice A0_0 l0_0.length c0_0) l0_0 := Kd.R_V (S_Rs hS0)
 have hS := aM_ hS0
 have hb0w := aM_ hb0
 clear hS0 hb0
 have hu24 := Try.underlying24
 have hu43 := Try.underlying43
 have HO0_0 := aM_ (show Kd.V (Kd.slice 43 k43) 44 w w.heap.size (fun k_ => (P0_0_ k_ ∨ w.heap.size ≤ k_)) (.slice A0_0 l0_0.length c0_0) l0_0 from Kd.V_mono hs0_0 (fun k_ hk => .inl hk))
 have HR1 := aM_ hr1
 have HC1 := aM_ hc1
 clear hr1 hc1
 have HB := aM_ (Below.refl w.heap.size w)
 have H : ((some (([] : List Int) : List Int)).bind fun y317 => (if y317.length + l1.length < 17592186044416 then ((some (y317 ++ l1 : List Int)).bind fun y320 => (if 0 ≤ a2 then (if a2 < (l0_0.length : Int) then (if a2 < (y320.length : Int) then ((some (y320.set (a2 : Int).toNat ((rd_L4 l0_0 a2).length : Int) : List Int)).bind fun y324 => (if 24 ≤ 35184372088832 then (if a2 < ((List.replicate 24 0).length : Int) then (if a4 = true then (if (([] : List Int)).length + y324.length < 17592186044416 then (if (rd_L4 l0_0 a2).length < 4398046511104 then (some (l0_0.set (a2 : Int).toNat (rd_L4 l0_0 a2 ++ [(⟨a3,(([] : List Int)) ++ y324⟩ : S43)]),y324)) else (none)) else (none)) else (if (rd_L4 l0_0 a2).length < 4398046511104 then (some (l0_0.set (a2 : Int).toNat (rd_L4 l0_0 a2 ++ [(⟨a3,(List.replicate 24 0).set (a2 : Int).toNat (rd y324 a2)⟩ : S43)]),y324)) else (none))) else (none)) else (none))) else (none)) else (none)) else (none))) else (none))) = some (r1,r2) := h
 clear h
 obtain ⟨y317,hy317⟩ : ∃ y_ : List Int,y_ = (([] : List Int)) := ⟨_,rfl⟩
 replace H : (if y317.length + l1.length < 17592186044416 then ((some (y317 ++ l1 : List Int)).bind fun y320 => (if 0 ≤ a2 then (if a2 < (l0_0.length : Int) then (if a2 < (y320.length : Int) then ((some (y320.set (a2 : Int).toNat ((rd_L4 l0_0 a2).length : Int) : List Int)).bind fun y324 => (if 24 ≤ 35184372088832 then (if a2 < ((List.replicate 24 0).length : Int) then (if a4 = true then (if (([] : List Int)).length + y324.length < 17592186044416 then (if (rd_L4 l0_0 a2).length < 4398046511104 then (some (l0_0.set (a2 : Int).toNat (rd_L4 l0_0 a2 ++ [(⟨a3,(([] : List Int)) ++ y324⟩ : S43)]),y324)) else (none)) else (none)) else (if (rd_L4 l0_0 a2).length < 4398046511104 then (some (l0_0.set (a2 : Int).toNat (rd_L4 l0_0 a2 ++ [(⟨a3,(List.replicate 24 0).set (a2 : Int).toNat (rd y324 a2)⟩ : S43)]),y324)) else (none))) else (none)) else (none))) else (none)) else (none)) else (none))) else (none)) = some (r1,r2) := by first | (rw [hy317];with_reducible exact H) | (have H2_ := (Option.bind_some _ _).symm.trans H;rw [hy317];with_reducible exact H2_) | (have H2_ := (Option.bind_some _ _).symm.trans H;with_reducible exact H2_) | with_reducible exact H | (rw [hy317];exact H) | exact H
 have Ny317 := aM_ hy317
 clear hy317
 by_cases c6 : y317.length + l1.length < 17592186044416
 ·rw [if_pos c6] at H
  have LMc6 := aM_ c6
  clear c6
  obtain ⟨y320,hy320⟩ : ∃ y_ : List Int,y_ = (y317 ++ l1) := ⟨_,rfl⟩
  replace H : (if 0 ≤ a2 then (if a2 < (l0_0.length : Int) then (if a2 < (y320.length : Int) then ((some (y320.set (a2 : Int).toNat ((rd_L4 l0_0 a2).length : Int) : List Int)).bind fun y324 => (if 24 ≤ 35184372088832 then (if a2 < ((List.replicate 24 0).length : Int) then (if a4 = true then (if (([] : List Int)).length + y324.length < 17592186044416 then (if (rd_L4 l0_0 a2).length < 4398046511104 then (some (l0_0.set (a2 : Int).toNat (rd_L4 l0_0 a2 ++ [(⟨a3,(([] : List Int)) ++ y324⟩ : S43)]),y324)) else (none)) else (none)) else (if (rd_L4 l0_0 a2).length < 4398046511104 then (some (l0_0.set (a2 : Int).toNat (rd_L4 l0_0 a2 ++ [(⟨a3,(List.replicate 24 0).set (a2 : Int).toNat (rd y324 a2)⟩ : S43)]),y324)) else (none))) else (none)) else (none))) else (none)) else (none)) else (none)) = some (r1,r2) := by first | (rw [hy320];with_reducible exact H) | (have H2_ := (Option.bind_some _ _).symm.trans H;rw [hy320];with_reducible exact H2_) | (have H2_ := (Option.bind_some _ _).symm.trans H;with_reducible exact H2_) | with_reducible exact H | (rw [hy320];exact H) | exact H
  have Ny320 := aM_ hy320
  clear hy320
  by_cases c7 : 0 ≤ a2
  ·rw [if_pos c7] at H
   have c7b0 : decide (0 ≤ a2) = true := decide_eq_true c7
   clear c7
   by_cases c8 : a2 < (l0_0.length : Int)
   ·rw [if_pos c8] at H
    have c8b0 : decide (a2 < (l0_0.length : Int)) = true := decide_eq_true c8
    clear c8
    by_cases c9 : a2 < (y320.length : Int)
    ·rw [if_pos c9] at H
     have c9b0 : decide (a2 < (y320.length : Int)) = true := decide_eq_true c9
     clear c9
     obtain ⟨y324,hy324⟩ : ∃ y_ : List Int,y_ = (y320.set (a2 : Int).toNat ((rd_L4 l0_0 a2).length : Int)) := ⟨_,rfl⟩
     replace H : (if 24 ≤ 35184372088832 then (if a2 < ((List.replicate 24 0).length : Int) then (if a4 = true then (if (([] : List Int)).length + y324.length < 17592186044416 then (if (rd_L4 l0_0 a2).length < 4398046511104 then (some (l0_0.set (a2 : Int).toNat (rd_L4 l0_0 a2 ++ [(⟨a3,(([] : List Int)) ++ y324⟩ : S43)]),y324)) else (none)) else (none)) else (if (rd_L4 l0_0 a2).length < 4398046511104 then (some (l0_0.set (a2 : Int).toNat (rd_L4 l0_0 a2 ++ [(⟨a3,(List.replicate 24 0).set (a2 : Int).toNat (rd y324 a2)⟩ : S43)]),y324)) else (none))) else (none)) else (none)) = some (r1,r2) := by first | (rw [hy324];with_reducible exact H) | (have H2_ := (Option.bind_some _ _).symm.trans H;rw [hy324];with_reducible exact H2_) | (have H2_ := (Option.bind_some _ _).symm.trans H;with_reducible exact H2_) | with_reducible exact H | (rw [hy324];exact H) | exact H
     have Ny324 := aM_ hy324
     clear hy324
     by_cases c11 : 24 ≤ 35184372088832
     ·rw [if_pos c11] at H
      have c11b0 := eq_true c11
      have c11b1 : decide (24 ≤ 35184372088832) = true := decide_eq_true c11
      clear c11
      obtain ⟨y325,hy325⟩ : ∃ y_ : List Int,y_ = (List.replicate 24 0) := ⟨_,rfl⟩
      replace H : (if a2 < (y325.length : Int) then (if a4 = true then (if (([] : List Int)).length + y324.length < 17592186044416 then (if (rd_L4 l0_0 a2).length < 4398046511104 then (some (l0_0.set (a2 : Int).toNat (rd_L4 l0_0 a2 ++ [(⟨a3,(([] : List Int)) ++ y324⟩ : S43)]),y324)) else (none)) else (none)) else (if (rd_L4 l0_0 a2).length < 4398046511104 then (some (l0_0.set (a2 : Int).toNat (rd_L4 l0_0 a2 ++ [(⟨a3,y325.set (a2 : Int).toNat (rd y324 a2)⟩ : S43)]),y324)) else (none))) else (none)) = some (r1,r2) := by first | (rw [hy325];with_reducible exact H) | (have H2_ := (Option.bind_some _ _).symm.trans H;rw [hy325];with_reducible exact H2_) | (have H2_ := (Option.bind_some _ _).symm.trans H;with_reducible exact H2_) | with_reducible exact H | (rw [hy325];exact H) | exact H
      have Ny325 := aM_ hy325
      clear hy325
      by_cases c12 : a2 < (y325.length : Int)
      ·rw [if_pos c12] at H
       have c12b0 : decide (a2 < (y325.length : Int)) = true := decide_eq_true c12
       clear c12
       obtain ⟨y330,hy330⟩ : ∃ y_ : List Int,y_ = (y325.set (a2 : Int).toNat (rd y324 a2)) := ⟨_,rfl⟩
       replace H : (if a4 = true then (if (([] : List Int)).length + y324.length < 17592186044416 then (if (rd_L4 l0_0 a2).length < 4398046511104 then (some (l0_0.set (a2 : Int).toNat (rd_L4 l0_0 a2 ++ [(⟨a3,(([] : List Int)) ++ y324⟩ : S43)]),y324)) else (none)) else (none)) else (if (rd_L4 l0_0 a2).length < 4398046511104 then (some (l0_0.set (a2 : Int).toNat (rd_L4 l0_0 a2 ++ [(⟨a3,y330⟩ : S43)]),y324)) else (none))) = some (r1,r2) := by first | (rw [hy330];with_reducible exact H) | (have H2_ := (Option.bind_some _ _).symm.trans H;rw [hy330];with_reducible exact H2_) | (have H2_ := (Option.bind_some _ _).symm.trans H;with_reducible exact H2_) | with_reducible exact H | (rw [hy330];exact H) | exact H
       have Ny330 := aM_ hy330
       clear hy330
       by_cases c14 : a4 = true
       ·subst c14
        have H1 : (if (([] : List Int)).length + y324.length < 17592186044416 then (if (rd_L4 l0_0 a2).length < 4398046511104 then (some (l0_0.set (a2 : Int).toNat (rd_L4 l0_0 a2 ++ [(⟨a3,(([] : List Int)) ++ y324⟩ : S43)]),y324)) else (none)) else (none)) = some (r1,r2) := by rw [if_pos rfl] at H;exact H
        clear H
        have H := H1
        clear H1
        obtain ⟨y331,hy331⟩ : ∃ y_ : List Int,y_ = (([] : List Int)) := ⟨_,rfl⟩
        replace H : (if y331.length + y324.length < 17592186044416 then (if (rd_L4 l0_0 a2).length < 4398046511104 then (some (l0_0.set (a2 : Int).toNat (rd_L4 l0_0 a2 ++ [(⟨a3,y331 ++ y324⟩ : S43)]),y324)) else (none)) else (none)) = some (r1,r2) := by first | (rw [hy331];with_reducible exact H) | (have H2_ := (Option.bind_some _ _).symm.trans H;rw [hy331];with_reducible exact H2_) | (have H2_ := (Option.bind_some _ _).symm.trans H;with_reducible exact H2_) | with_reducible exact H | (rw [hy331];exact H) | exact H
        have Ny331 := aM_ hy331
        clear hy331
        by_cases c15 : y331.length + y324.length < 17592186044416
        ·rw [if_pos c15] at H
         have LMc15 := aM_ c15
         clear c15
         obtain ⟨y334,hy334⟩ : ∃ y_ : List Int,y_ = (y331 ++ y324) := ⟨_,rfl⟩
         replace H : (if (rd_L4 l0_0 a2).length < 4398046511104 then (some (l0_0.set (a2 : Int).toNat (rd_L4 l0_0 a2 ++ [(⟨a3,y334⟩ : S43)]),y324)) else (none)) = some (r1,r2) := by first | (rw [hy334];with_reducible exact H) | (have H2_ := (Option.bind_some _ _).symm.trans H;rw [hy334];with_reducible exact H2_) | (have H2_ := (Option.bind_some _ _).symm.trans H;with_reducible exact H2_) | with_reducible exact H | (rw [hy334];exact H) | exact H
         have Ny334 := aM_ hy334
         clear hy334
         by_cases cP : (rd_L4 l0_0 a2).length < 4398046511104
         case neg => rw [if_neg cP] at H;exact absurd H (by simp)
         rw [if_pos cP] at H
         have LMcP := aM_ cP
         clear cP
         obtain ⟨yP,hyP⟩ : ∃ y_ : List S43,y_ = rd_L4 l0_0 a2 ++ [(⟨a3,y334⟩ : S43)] := ⟨_,rfl⟩
         replace H : (some (l0_0.set (a2 : Int).toNat yP,y324)) = some (r1,r2) := by rw [hyP];exact H
         have NyP := aM_ hyP
         clear hyP
         simp only [Option.some.injEq,Prod.mk.injEq] at H
         obtain ⟨rfl,rfl⟩ := H
         go_enter Try.func86,Try.ntmps86
         try go_wp2_with (first | ((with_reducible refine gate_dst (N := 5) rfl ?_);refine bX_ 5 (cs := #[.slice A0_0 l0_0.length c0_0]) (t := 24) ?_;intro gb315 hg w16 hbox hb;have n0 := aM_ (Kd.V_below (Kd.V_elderB (by (with_reducible repeat (first | apply Kd.V_alloc | apply Kd.V_drewN | apply Kd.V_drew));exact HO0_0.out) gb315 (Nat.le_of_eq hg.symm)) hb);have n1 := aM_ (sT_ HB.out hb);have n2 := aM_ (hbox);have n3 := aM_ (sZ_ hg HB.out);have n4 := aM_ (sZ_ hg HB.out);clear HO0_0;clear HB;have HO0_0 := n0;have HB := n1;have BK315 := n2;have GW315 := n3;have GE315 := n4;clear n0 n1 n2 n3 n4;clear hb hbox hg) | ((with_reducible refine gate_dst (N := 10) rfl ?_);refine bX_ 10 (cs := #[.slice none 0 0]) (t := 24) ?_;intro gb316 hg w17 hbox hb;have n0 := aM_ (Kd.V_below (Kd.V_elderB (by (with_reducible repeat (first | apply Kd.V_alloc | apply Kd.V_drewN | apply Kd.V_drew));exact HO0_0.out) gb316 (Nat.le_of_eq hg.symm)) hb);have n1 := aM_ (nB_ BK315.out hb);have n2 := aM_ (sT_ HB.out hb);have n3 := aM_ (hbox);have n4 := aM_ (sZ_ hg HB.out);have n5 := aM_ (sZ_ hg HB.out);have n6 := aM_ (nL_ hg BK315.out);have n7 := aM_ (nG_ hg BK315.out);clear HO0_0;clear BK315;clear HB;have HO0_0 := n0;have BK315 := n1;have HB := n2;have BK316 := n3;have GW316 := n4;have GE316 := n5;have NB315_316 := n6;have NB316_315 := n7;clear n0 n1 n2 n3 n4 n5 n6 n7;clear hb hbox hg) | ((with_reducible refine gate_dst (N := 14) rfl ?_);refine Kd.R_lit (Kd.int .i64) _ 3 ?hg (N := 14) ?hd (xs := ([] : List Int)) (inner := []) (ok := fun _ => True) (okp := fun _ => True) ?hr ?hp (fun _ hk => hk) trivial (Below.refl _ _) (Nat.le_refl _) (by simp) ?_;(case hd => rfl);(case hg => rfl);(case hr => first | (go_simp;done) | (go_simp;rfl));(case hp => exact (Reps.none _ _));intro v318 w18 ho19 hb hg_ hnew_;clear hg_ hnew_;(first | rw [← Ny317.out] at ho19 | (simp only [Int.reduceToNat] at ho19;rw [← Ny317.out] at ho19));have n0 := aM_ (Kd.V_elder' (by (with_reducible repeat (first | apply Kd.V_alloc | apply Kd.V_drewN | apply Kd.V_drew));exact HO0_0.out) (Kd.R_base ho19) hb);have n1 := aM_ (Kd.R_lower (Kd.R_newM (M := fun k_ => (w.heap.size ≤ k_)) ho19 (below_size (gB_ HB.out)) (fun k_ h_ => h_)) (below_size (gB_ HB.out)));have n2 := aM_ (nB_ BK315.out hb);have n3 := aM_ (nB_ BK316.out hb);have n4 := aM_ (sT_ HB.out hb);clear HO0_0;clear BK315;clear BK316;clear HB;have HO0_0 := n0;have HO319 := n1;have BK315 := n2;have BK316 := n3;have HB := n4;clear n0 n1 n2 n3 n4;clear hb ho19) | ((with_reducible refine gate_builtin (b := .append) (xs := #[.tmp 14,.tmp 15]) rfl ?_);at_builtin;refine Kd.R_append_rows (Kd.int .i64) (w0 := w) w.heap.size rfl (.tmp 14) (.tmp 15) 31 3 (.int .i64 0) 8 rfl Try.underlying31 info3 rfl (by decide) (by omega) v318 y317 l1 _ _ _ (fun k_ => (w.heap.size ≤ k_)) (fun _ => False) rfl rfl ?aO ?aR (fun _ _ h => h) (fun _ h => h.elim) ?aF ?aB ?aS ?aL ?_;(case aR => repeat (first | exact (Kd.C_below HR1.out HB.out) | (with_reducible refine Kd.C_alloc ?_ _) | (with_reducible refine Kd.C_drewN ?_ _) | (with_reducible refine Kd.C_drew ?_)));(case aB => exact (gB_ HB.out));(case aF => exact (fun k_ hk => (Nat.le_trans (below_size (gB_ HB.out)) hk)));(case aO => exact (by (with_reducible repeat (first | apply rA_ | apply rN_ | apply rD_));exact Kd.R_mono HO319.out (fun _ hk => hk.1)));(case aS => exact (below_size (gB_ HB.out)));(case aL => have := LMc6.out;omega);intro v321 w20 ho hb hg hat;rw [← Ny320.out] at ho;have n0 := aM_ (Kd.V_afterv (ok := (fun k_ => (P0_0_ k_ ∨ w.heap.size ≤ k_) ∧ k_ ≠ gb315 ∧ k_ ≠ gb316)) (by (with_reducible repeat (first | apply Kd.V_alloc | apply Kd.V_drewN | apply Kd.V_drew));exact Kd.V_mono HO0_0.out (fun _ hk => ⟨⟨hk.1.1.1,⟨hk.1.1.2,hk.1.2⟩⟩,hk.2⟩)) hg hat);have n1 := aM_ (blk_grown (g := gb315) (o := .cells #[.slice A0_0 l0_0.length c0_0] 24 (0,0)) (by (with_reducible repeat (first | refine bN_ ?_ _ | refine bD_ ?_ | refine bA_ ?_ _));exact BK315.out) hg (Kd.R_ne HO319.out BK315.out (by decide)));have n2 := aM_ (blk_grown (g := gb316) (o := .cells #[.slice none 0 0] 24 (0,0)) (by (with_reducible repeat (first | refine bN_ ?_ _ | refine bD_ ?_ | refine bA_ ?_ _));exact BK316.out) hg (Kd.R_ne HO319.out BK316.out (by decide)));have n3 := aM_ (hb);have n4 := aM_ (ho);clear HO0_0;clear BK315;clear BK316;clear HB;clear HO319;have HO0_0 := n0;have BK315 := n1;have BK316 := n2;have HB := n3;have HO322 := n4;clear n0 n1 n2 n3 n4;clear ho hb hg hat;have hnb21 := NB315_316.out;have hnc21 := NB316_315.out;have hcz22_0 : w20.cell? ⟨gb315,0,none⟩ = some (.slice A0_0 l0_0.length c0_0) := (blk_cell BK315.out 0).trans rfl;have hfz22_0 := blk_frozen BK315.out 0;have p323 : 0 ≤ (a2 : Int) := of_decide_eq_true (by first | (with_reducible assumption) | assumption);have q323 : a2 < (l0_0.length : Int) := of_decide_eq_true (by first | (with_reducible assumption) | assumption);obtain ⟨ad323,A323_0,c323_0,e323,hx323_0,hl323_0,hi323_0⟩ := at_L4 (Kd.V_reads' HO0_0.out).2.2 a2 p323 q323;cases e323;obtain ⟨ce323,hce323,hMe323,hcc323⟩ := Kd.V_get HO0_0.out [] a2 p323 (by first | exact q323 | exact of_decide_eq_true (by first | (with_reducible assumption) | assumption) | (have e_ := (Kd.V_reads' HO0_0.out).1;omega));obtain ⟨ua323_0,uc323_0,rfl,ul323_0,ge323_0⟩ := Kd.FK_slice_open hMe323;have hv323_0 := hcc323 0 _ rfl;rw [Nat.add_zero,show ((Kd.slice 43 k43)).sz = 1 from rfl,Nat.mul_one] at hv323_0;replace hv323_0 := Option.some.inj (hv323_0.symm.trans hx323_0);injection hv323_0 with hva_ hvn_ hvc_;rw [hva_] at ge323_0;rw [hvc_] at ul323_0;have HL323_0 := aM_ (show Kd.V k43 43 _ w.heap.size _ _ (rd_L4 l0_0 a2) from Kd.V_mk ul323_0 ge323_0);clear hva_ hvn_ hvc_ ge323_0 ul323_0;clear hcc323 hce323;have HR323_0 := aM_ hi323_0;have HC323_0 := aM_ hl323_0;clear hi323_0 hl323_0;replace p323 := eq_true p323;replace q323 := eq_true q323;have p10 : 0 ≤ (a2 : Int) := of_decide_eq_true (by first | (with_reducible assumption) | assumption);have q10 : (a2 : Int) < ((y320.length : Int) : Int) := of_decide_eq_true (by first | (with_reducible assumption) | assumption);obtain ⟨go10,co10,eo10,gb10,gl10,cl10,HG10⟩ := Kd.R_form HO322.out (by omega);(first | cases eo10 | (injection eo10 with ea_ en_ ec_;(first | subst ea_ | (injection ea_ with ea_;subst ea_));subst ec_;clear en_));have GB10 := aM_ gb10;have GG10 := aM_ HG10;clear gb10 gl10 HG10;obtain ⟨hx10_0,hf10_0⟩ := Kd.R_celln 0 HO322.out (a2 : Int) p10 q10;replace p10 := eq_true p10;replace q10 := eq_true q10;obtain ⟨hy23_,hz23_⟩ := Kd.R_celln 0 HO322.out (a2 : Int) (of_decide_eq_true (by first | (with_reducible assumption) | assumption)) (of_decide_eq_true (by first | (with_reducible assumption) | assumption));have HP23 := Kd.R_putg HO322.out (a2 : Int) ((rd_L4 l0_0 a2).length : Int)) | ((with_reducible refine gate_store (t := 3) (p := 25) rfl ?_);refine store_event (t := 3) (p := 25) (v := ?vo_w24) (w1 := (w20.setCell ⟨go10,(a2 : Int).toNat,none⟩ (.int .i64 ((rd_L4 l0_0 a2).length : Int)))) ?hg ?ho ?hn ?hr ?_;(case ho => rfl);(case hg => rfl);(case hn => rfl);(case hr => first | (go_simp;done) | (go_simp;rfl));intro w24 hw;have hg : w20.grownBy w24 (some go10) := (by rw [hw];exact HP23.2);have hp_ : Kd.R (Kd.int .i64) 3 w24 w.heap.size (fun k_ => (w.heap.size ≤ k_)) (.slice (some ⟨go10,0,none⟩) y320.length co10) y324 := (by rw [hw,Ny324.out];exact HP23.1);clear HP23;have n0 := aM_ (Kd.V_afterv (v := (.slice (some ⟨go10,0,none⟩) y320.length co10)) (v1 := (.slice (some ⟨go10,0,none⟩) y320.length co10)) (ok := (fun k_ => (P0_0_ k_ ∨ w.heap.size ≤ k_) ∧ k_ ≠ gb315 ∧ k_ ≠ gb316)) (by (with_reducible repeat (first | apply Kd.V_alloc | apply Kd.V_drewN | apply Kd.V_drew));exact HO0_0.out) hg (.inl rfl));have n1 := aM_ (blk_grown (g := gb315) (o := .cells #[.slice (some ad323) l0_0.length c0_0] 24 (0,0)) (by (with_reducible repeat (first | refine bN_ ?_ _ | refine bD_ ?_ | refine bA_ ?_ _));exact BK315.out) hg (Kd.R_ne HO322.out BK315.out (by decide)));have n2 := aM_ (blk_grown (g := gb316) (o := .cells #[.slice none 0 0] 24 (0,0)) (by (with_reducible repeat (first | refine bN_ ?_ _ | refine bD_ ?_ | refine bA_ ?_ _));exact BK316.out) hg (Kd.R_ne HO322.out BK316.out (by decide)));have n3 := aM_ (hp_);have n4 := aM_ (Kd.V_afterv (v := (.slice (some ⟨go10,0,none⟩) y320.length co10)) (v1 := (.slice (some ⟨go10,0,none⟩) y320.length co10)) (ok := (fun k_ => (P0_0_ k_ ∨ w.heap.size ≤ k_) ∧ k_ ≠ gb315 ∧ k_ ≠ gb316)) (by (with_reducible repeat (first | apply Kd.V_alloc | apply Kd.V_drewN | apply Kd.V_drew));exact HL323_0.out) hg (.inl rfl));have n5 := aM_ ((by rw [hw];exact below_set (HB.out) GB10.out : Below w.heap.size w w24));clear HO0_0;clear BK315;clear BK316;clear HO322;clear HL323_0;clear HB;have HO0_0 := n0;have BK315 := n1;have BK316 := n2;have HO322 := n3;have HL323_0 := n4;have HB := n5;clear n0 n1 n2 n3 n4 n5;clear hg hw hp_) | ((with_reducible refine gate_dst (N := 27) rfl ?_);refine Kd.R_make (Kd.int .i64) _ 3 rfl (N := 27) rfl 31 _ _ rfl 24 rfl rfl Try.underlying31 (.int .i64 0) 8 info3 rfl (by decide) (by omega) 0 (ok := fun _ => True) (okp := fun _ => True) rfl (fun _ hk => hk) trivial (by omega) (by omega) (Below.refl _ _) (Nat.le_refl _) ?_;intro v326 w25 ho26 hb hg_ hnew_;clear hg_ hnew_;(first | rw [← Ny325.out] at ho26 | (simp only [Int.reduceToNat] at ho26;rw [← Ny325.out] at ho26));have n0 := aM_ (Kd.V_elder' (by (with_reducible repeat (first | apply Kd.V_alloc | apply Kd.V_drewN | apply Kd.V_drew));exact HO0_0.out) (Kd.R_base ho26) hb);have n1 := aM_ (Kd.R_elder' (by (with_reducible repeat (first | apply rA_ | apply rN_ | apply rD_));exact HO322.out) (Kd.R_base ho26) hb);have n2 := aM_ (Kd.V_elder' (by (with_reducible repeat (first | apply Kd.V_alloc | apply Kd.V_drewN | apply Kd.V_drew));exact HL323_0.out) (Kd.R_base ho26) hb);have n3 := aM_ (Kd.R_lower (Kd.R_new' (Kd.R_newM (M := fun k_ => (w.heap.size ≤ k_)) ho26 (below_size (gB_ HB.out)) (fun k_ h_ => h_)) (Kd.R_lt (by (with_reducible repeat (first | apply rA_ | apply rN_ | apply rD_));exact HO322.out))) (below_size (gB_ HB.out)));have n4 := aM_ (nB_ BK315.out hb);have n5 := aM_ (nB_ BK316.out hb);have n6 := aM_ (sT_ HB.out hb);clear HO0_0;clear HO322;clear HL323_0;clear BK315;clear BK316;clear HB;have HO0_0 := n0;have HO322 := n1;have HL323_0 := n2;have HO327 := n3;have BK315 := n4;have BK316 := n5;have HB := n6;clear n0 n1 n2 n3 n4 n5 n6;clear hb ho26;obtain ⟨Ao27,co27,eo27⟩ := Kd.R_slice HO327.out;subst eo27) | ((with_reducible refine gate_dst (N := 13) rfl ?_);refine bX_ 13 (cs := #[.int .i64 0,.slice none 0 0]) (t := 43) ?_;intro gb328 hg w28 hbox hb;have n0 := aM_ (Kd.V_below (Kd.V_elderB (by (with_reducible repeat (first | apply Kd.V_alloc | apply Kd.V_drewN | apply Kd.V_drew));exact HO0_0.out) gb328 (Nat.le_of_eq hg.symm)) hb);have n1 := aM_ (bR_ HO322.out hb);have n2 := aM_ (Kd.V_below (Kd.V_elderB (by (with_reducible repeat (first | apply Kd.V_alloc | apply Kd.V_drewN | apply Kd.V_drew));exact HL323_0.out) gb328 (Nat.le_of_eq hg.symm)) hb);have n3 := aM_ (bR_ HO327.out hb);have n4 := aM_ (nB_ BK315.out hb);have n5 := aM_ (nB_ BK316.out hb);have n6 := aM_ (sT_ HB.out hb);have n7 := aM_ (hbox);have n8 := aM_ (sZ_ hg HB.out);have n9 := aM_ (sZ_ hg HB.out);have n10 := aM_ (nL_ hg BK315.out);have n11 := aM_ (nG_ hg BK315.out);have n12 := aM_ (nL_ hg BK316.out);have n13 := aM_ (nG_ hg BK316.out);clear HO0_0;clear HO322;clear HL323_0;clear HO327;clear BK315;clear BK316;clear HB;have HO0_0 := n0;have HO322 := n1;have HL323_0 := n2;have HO327 := n3;have BK315 := n4;have BK316 := n5;have HB := n6;have BK328 := n7;have GW328 := n8;have GE328 := n9;have NB315_328 := n10;have NB328_315 := n11;have NB316_328 := n12;have NB328_316 := n13;clear n0 n1 n2 n3 n4 n5 n6 n7 n8 n9 n10 n11 n12 n13;clear hb hbox hg;have hnb29 := NB328_315.out;have hnc29 := NB315_328.out;have hnb30 := NB328_316.out;have hnc30 := NB316_328.out;obtain ⟨hcz31_0,hcz31_1,hfz31_0,hfz31_1⟩ := bR2_ BK328.out))
         have n0 : Aside0 (Kd.V (Kd.slice 43 k43) 44 ((w28.setCell ⟨gb328,0,none⟩ (.int .i64 a3)).setCell ⟨gb328,1,none⟩ (.slice Ao27 y325.length co27)) w.heap.size (fun k_ => (P0_0_ k_ ∨ w.heap.size ≤ k_) ∧ some k_ ≠ (.slice (some ⟨go10,0,none⟩) y320.length co10 : Value).ownBlock ∧ some k_ ≠ (.slice Ao27 y325.length co27 : Value).ownBlock ∧ k_ ≠ gb315 ∧ k_ ≠ gb316 ∧ k_ ≠ gb328) (.slice (some ad323) l0_0.length c0_0) l0_0) := ⟨by (with_reducible repeat (first | apply Kd.V_alloc | apply Kd.V_drewN | apply Kd.V_drew));exact Kd.V_mono (Kd.V_far (p := ⟨gb328,1,none⟩) (Kd.V_far (p := ⟨gb328,0,none⟩) (Kd.V_mono HO0_0.out (fun k_ hk => (⟨hk,hk.2⟩ : _ ∧ k_ ≠ gb328))) (fun _ hk => hk.2) (.int .i64 a3)) (fun _ hk => hk.2) (.slice Ao27 y325.length co27)) (fun _ hk => ⟨hk.1.1.1.1.1,⟨hk.1.1.1.2,⟨hk.1.1.2,⟨hk.1.1.1.1.2.1,⟨hk.1.1.1.1.2.2,hk.1.2⟩⟩⟩⟩⟩)⟩
         have n1 : Aside0 (Kd.R (Kd.int .i64) 3 ((w28.setCell ⟨gb328,0,none⟩ (.int .i64 a3)).setCell ⟨gb328,1,none⟩ (.slice Ao27 y325.length co27)) w.heap.size (fun k_ => (w.heap.size ≤ k_) ∧ some k_ ≠ (.slice Ao27 y325.length co27 : Value).ownBlock) (.slice (some ⟨go10,0,none⟩) y320.length co10) y324) := ⟨by (with_reducible repeat (first | apply rA_ | apply rN_ | apply rD_));exact Kd.R_mono (Kd.R_far (p := ⟨gb328,1,none⟩) (Kd.R_far (p := ⟨gb328,0,none⟩) (Kd.R_types HO322.out BK328.out (by decide)) (fun _ hk => hk.2) (.int .i64 a3)) (fun _ hk => hk.2) (.slice Ao27 y325.length co27)) (fun _ hk => ⟨hk.1.1,hk.1.2⟩)⟩
         have n2 : Aside0 (Kd.V k43 43 ((w28.setCell ⟨gb328,0,none⟩ (.int .i64 a3)).setCell ⟨gb328,1,none⟩ (.slice Ao27 y325.length co27)) w.heap.size (fun k_ => (P0_0_ k_ ∨ w.heap.size ≤ k_) ∧ some k_ ≠ (.slice (some ⟨go10,0,none⟩) y320.length co10 : Value).ownBlock ∧ some k_ ≠ (.slice Ao27 y325.length co27 : Value).ownBlock ∧ k_ ≠ gb315 ∧ k_ ≠ gb316 ∧ k_ ≠ gb328) (.slice A323_0 (rd_L4 l0_0 a2).length c323_0) (rd_L4 l0_0 a2)) := ⟨by (with_reducible repeat (first | apply Kd.V_alloc | apply Kd.V_drewN | apply Kd.V_drew));exact Kd.V_mono (Kd.V_far (p := ⟨gb328,1,none⟩) (Kd.V_far (p := ⟨gb328,0,none⟩) (Kd.V_mono HL323_0.out (fun k_ hk => (⟨hk,hk.2⟩ : _ ∧ k_ ≠ gb328))) (fun _ hk => hk.2) (.int .i64 a3)) (fun _ hk => hk.2) (.slice Ao27 y325.length co27)) (fun _ hk => ⟨hk.1.1.1.1.1,⟨hk.1.1.1.2,⟨hk.1.1.2,⟨hk.1.1.1.1.2.1,⟨hk.1.1.1.1.2.2,hk.1.2⟩⟩⟩⟩⟩)⟩
         have n3 : Aside0 (Kd.R (Kd.int .i64) 3 ((w28.setCell ⟨gb328,0,none⟩ (.int .i64 a3)).setCell ⟨gb328,1,none⟩ (.slice Ao27 y325.length co27)) w.heap.size (fun k_ => (w.heap.size ≤ k_) ∧ some k_ ≠ (.slice (some ⟨go10,0,none⟩) y320.length co10 : Value).ownBlock) (.slice Ao27 y325.length co27) y325) := ⟨by (with_reducible repeat (first | apply rA_ | apply rN_ | apply rD_));exact Kd.R_mono (Kd.R_far (p := ⟨gb328,1,none⟩) (Kd.R_far (p := ⟨gb328,0,none⟩) (Kd.R_types HO327.out BK328.out (by decide)) (fun _ hk => hk.2) (.int .i64 a3)) (fun _ hk => hk.2) (.slice Ao27 y325.length co27)) (fun _ hk => ⟨hk.1.1.1,hk.1.2⟩)⟩
         have n4 : Aside0 (((w28.setCell ⟨gb328,0,none⟩ (.int .i64 a3)).setCell ⟨gb328,1,none⟩ (.slice Ao27 y325.length co27)).heap[gb315]? = some (.cells #[.slice (some ad323) l0_0.length c0_0] 24 (0,0))) := ⟨by (with_reducible repeat (first | refine bN_ ?_ _ | refine bD_ ?_ | refine bA_ ?_ _));refine blk_far ?_ NB315_328.out _;(with_reducible repeat (first | refine bN_ ?_ _ | refine bD_ ?_ | refine bA_ ?_ _));refine blk_far ?_ NB315_328.out _;(with_reducible repeat (first | refine bN_ ?_ _ | refine bD_ ?_ | refine bA_ ?_ _));exact BK315.out⟩
         have n5 : Aside0 (((w28.setCell ⟨gb328,0,none⟩ (.int .i64 a3)).setCell ⟨gb328,1,none⟩ (.slice Ao27 y325.length co27)).heap[gb316]? = some (.cells #[.slice none 0 0] 24 (0,0))) := ⟨by (with_reducible repeat (first | refine bN_ ?_ _ | refine bD_ ?_ | refine bA_ ?_ _));refine blk_far ?_ NB316_328.out _;(with_reducible repeat (first | refine bN_ ?_ _ | refine bD_ ?_ | refine bA_ ?_ _));refine blk_far ?_ NB316_328.out _;(with_reducible repeat (first | refine bN_ ?_ _ | refine bD_ ?_ | refine bA_ ?_ _));exact BK316.out⟩
         have n6 : Aside0 (((w28.setCell ⟨gb328,0,none⟩ (.int .i64 a3)).setCell ⟨gb328,1,none⟩ (.slice Ao27 y325.length co27)).heap[gb328]? = some (.cells #[.int .i64 a3,.slice Ao27 y325.length co27] 43 (0,0))) := ⟨by (with_reducible repeat (first | refine bN_ ?_ _ | refine bD_ ?_ | refine bA_ ?_ _));refine blk_put (cs := #[.int .i64 a3,.slice none 0 0]) ?_ 1 _ rfl;refine blk_put (cs := #[.int .i64 0,.slice none 0 0]) ?_ 0 _ rfl;(with_reducible repeat (first | refine bN_ ?_ _ | refine bD_ ?_ | refine bA_ ?_ _));exact BK328.out⟩
         have n7 : Aside0 (Below w.heap.size w ((w28.setCell ⟨gb328,0,none⟩ (.int .i64 a3)).setCell ⟨gb328,1,none⟩ (.slice Ao27 y325.length co27))) := ⟨gW_ HB.out⟩
         (try clear HO0_0)
         (try clear HO322)
         (try clear HL323_0)
         (try clear HO327)
         (try clear BK315)
         (try clear BK316)
         (try clear BK328)
         (try clear HB)
         generalize ((w28.setCell ⟨gb328,0,none⟩ (.int .i64 a3)).setCell ⟨gb328,1,none⟩ (.slice Ao27 y325.length co27)) = w32 at n0 n1 n2 n3 n4 n5 n6 n7 ⊢
         have HO0_0 := n0
         have HO322 := n1
         have HL323_0 := n2
         have HO327 := n3
         have BK315 := n4
         have BK316 := n5
         have BK328 := n6
         have HB := n7
         clear n0 n1 n2 n3 n4 n5 n6 n7
         have n0 := aM_ (Kd.V_drew HO0_0.out)
         have n1 := aM_ (Kd.R_drew HO322.out)
         have n2 := aM_ (Kd.V_drew HL323_0.out)
         have n3 := aM_ (Kd.R_drew HO327.out)
         have n4 := aM_ (blk_drew BK315.out)
         have n5 := aM_ (blk_drew BK316.out)
         have n6 := aM_ (blk_drew BK328.out)
         have n7 := aM_ (below_drew1 HB.out)
         clear HO0_0
         clear HO322
         clear HL323_0
         clear HO327
         clear BK315
         clear BK316
         clear BK328
         clear HB
         have HO0_0 := n0
         have HO322 := n1
         have HL323_0 := n2
         have HO327 := n3
         have BK315 := n4
         have BK316 := n5
         have BK328 := n6
         have HB := n7
         clear n0 n1 n2 n3 n4 n5 n6 n7
         have p329 : 0 ≤ (a2 : Int) := of_decide_eq_true (by first | (with_reducible assumption) | assumption)
         have q329 : a2 < (y324.length : Int) := (by have h_ : (a2 : Int) < ((y320.length : Int) : Int) := of_decide_eq_true (by first | (with_reducible assumption) | assumption);first | (have e_ := (Kd.R_reads' HO322.out).1;omega) | simpa only [Ny324.out,List.length_set] using h_)
         have ql329 : ((a2 : Int) < ((y320.length : Int) : Int)) = True := eq_true (of_decide_eq_true (by first | (with_reducible assumption) | assumption))
         obtain ⟨ad329,e329,hx329_0⟩ := Kd.at_int (Kd.R_reads' HO322.out).2.2 a2 p329 q329
         obtain rfl : (⟨go10,0,none⟩ : Addr) = ad329 := (by injection e329)
         (first | simp only [add_plain] at hx329_0 | simp only [add_at] at hx329_0 | simp only [Addr.add,Nat.zero_add] at hx329_0 | skip)
         replace p329 := eq_true p329
         replace q329 := eq_true q329
         have p13 : 0 ≤ (a2 : Int) := of_decide_eq_true (by first | (with_reducible assumption) | assumption)
         have q13 : (a2 : Int) < ((y325.length : Int) : Int) := of_decide_eq_true (by first | (with_reducible assumption) | assumption)
         obtain ⟨go13,co13,eo13,gb13,gl13,cl13,HG13⟩ := Kd.R_form HO327.out (by omega)
         (first | cases eo13 | (injection eo13 with ea_ en_ ec_;(first | subst ea_ | (injection ea_ with ea_;subst ea_));subst ec_;clear en_))
         have GB13 := aM_ gb13
         have GG13 := aM_ HG13
         clear gb13 gl13 HG13
         obtain ⟨hx13_0,hf13_0⟩ := Kd.R_celln 0 HO327.out (a2 : Int) p13 q13
         replace p13 := eq_true p13
         replace q13 := eq_true q13
         have HP34 := Kd.R_putn HO327.out (a2 : Int) (rd y324 a2)
         rw [← Ny330.out] at HP34
         have HQ34 := aM_ HP34
         clear HP34
         refine start_ (n := 9) (S := fun w' => w'.cell? ⟨gb328,0,none⟩ = some (.int .i64 a3) ∧ w'.cell? ⟨gb328,1,none⟩ = some (.slice (some ⟨go13,0,none⟩) y325.length co27) ∧ w'.cell? ⟨go10,(a2).toNat,none⟩ = some (.int .i64 (rd y324 a2))) (ds := [8]) #[false,false,false,false,false,false,false,false,false] (by kernel_rfl) rfl rfl ⟨(blk_cell BK328.out 0).trans rfl,(blk_cell BK328.out 1).trans rfl,hx329_0⟩ (fun hHeld => ?_);refine with_tabW spec_l6Store.tab4 spec_l6Store.bits4 (fun HT_ HW_ => ?_)
         generalize w32.drew = w33 at HO0_0 HO322 HL323_0 HO327 BK315 BK316 BK328 HB GG13 HQ34 hf13_0 hx13_0 hx329_0 hHeld ⊢
         refine pU_ 0 (some 29) (mk_ 9 1) ?_
         refine pU_ 2 (some 31) (mk_ 9 5) ?_
         refine pU_ 3 (some 32) (mk_ 9 13) ?_
         refine pU_ 4 (some 33) (mk_ 9 29) ?_
         refine pU_ 5 (some 34) (mk_ 9 61) ?_
         refine tK3_ 1 (some 30) (mk_ 9 63) ?_
         refine tK3_ 6 (some 35) (mk_ 9 127) ?_
         refine pU_ 7 (some 36) (mk_ 9 255) ?_
         refine last_ (i := 8) (N := none) #[true,true,true,true,true,true,true,true,true] rfl rfl (one_of HT_.out (by kernel_rfl)) (by decide) (fun K hK => ?_)
         refine skip_ (w1 := ?_) (by rfl) rfl ?_ ?_
         rotate_left
         ·go_simp
          rfl
         refine hK.out _ _ ?_
         clear hK K
         refine done_ (done_of HT_.out (by kernel_rfl)) ?_
         have n0 : Aside0 (Kd.V (Kd.slice 43 k43) 44 (w33.setCell ⟨go13,(a2 : Int).toNat,none⟩ (.int .i64 (rd y324 a2))) w.heap.size (fun k_ => (P0_0_ k_ ∨ w.heap.size ≤ k_) ∧ some k_ ≠ (.slice (some ⟨go10,0,none⟩) y320.length co10 : Value).ownBlock ∧ some k_ ≠ (.slice (some ⟨go13,0,none⟩) y325.length co27 : Value).ownBlock ∧ k_ ≠ gb315 ∧ k_ ≠ gb316 ∧ k_ ≠ gb328) (.slice (some ad323) l0_0.length c0_0) l0_0) := ⟨by (with_reducible repeat (first | apply Kd.V_alloc | apply Kd.V_drewN | apply Kd.V_drew));exact Kd.V_mono (Kd.V_far (p := ⟨go13,(a2 : Int).toNat,none⟩) (Kd.V_mono HO0_0.out (fun k_ hk => (⟨hk,fun e_ => hk.2.2.1 (by rw [e_];rfl)⟩ : _ ∧ k_ ≠ go13))) (fun _ hk => hk.2) (.int .i64 (rd y324 a2))) (fun _ hk => ⟨hk.1.1,⟨hk.1.2.1,⟨hk.1.2.2.1,⟨hk.1.2.2.2.1,⟨hk.1.2.2.2.2.1,hk.1.2.2.2.2.2⟩⟩⟩⟩⟩)⟩
         have n1 : Aside0 (Kd.R (Kd.int .i64) 3 (w33.setCell ⟨go13,(a2 : Int).toNat,none⟩ (.int .i64 (rd y324 a2))) w.heap.size (fun k_ => (w.heap.size ≤ k_) ∧ some k_ ≠ (.slice (some ⟨go13,0,none⟩) y325.length co27 : Value).ownBlock) (.slice (some ⟨go10,0,none⟩) y320.length co10) y324) := ⟨by (with_reducible repeat (first | apply rA_ | apply rN_ | apply rD_));exact Kd.R_mono (Kd.R_far (p := ⟨go13,(a2 : Int).toNat,none⟩) (Kd.R_mono HO322.out (fun k_ hk => (⟨hk,fun e_ => hk.2 (by rw [e_];rfl)⟩ : _ ∧ k_ ≠ go13))) (fun _ hk => hk.2) (.int .i64 (rd y324 a2))) (fun _ hk => ⟨hk.1.1,hk.1.2⟩)⟩
         have n2 : Aside0 (Kd.V k43 43 (w33.setCell ⟨go13,(a2 : Int).toNat,none⟩ (.int .i64 (rd y324 a2))) w.heap.size (fun k_ => (P0_0_ k_ ∨ w.heap.size ≤ k_) ∧ some k_ ≠ (.slice (some ⟨go10,0,none⟩) y320.length co10 : Value).ownBlock ∧ some k_ ≠ (.slice (some ⟨go13,0,none⟩) y325.length co27 : Value).ownBlock ∧ k_ ≠ gb315 ∧ k_ ≠ gb316 ∧ k_ ≠ gb328) (.slice A323_0 (rd_L4 l0_0 a2).length c323_0) (rd_L4 l0_0 a2)) := ⟨by (with_reducible repeat (first | apply Kd.V_alloc | apply Kd.V_drewN | apply Kd.V_drew));exact Kd.V_mono (Kd.V_far (p := ⟨go13,(a2 : Int).toNat,none⟩) (Kd.V_mono HL323_0.out (fun k_ hk => (⟨hk,fun e_ => hk.2.2.1 (by rw [e_];rfl)⟩ : _ ∧ k_ ≠ go13))) (fun _ hk => hk.2) (.int .i64 (rd y324 a2))) (fun _ hk => ⟨hk.1.1,⟨hk.1.2.1,⟨hk.1.2.2.1,⟨hk.1.2.2.2.1,⟨hk.1.2.2.2.2.1,hk.1.2.2.2.2.2⟩⟩⟩⟩⟩)⟩
         have n3 : Aside0 (Kd.R (Kd.int .i64) 3 (w33.setCell ⟨go13,(a2 : Int).toNat,none⟩ (.int .i64 (rd y324 a2))) w.heap.size (fun k_ => (w.heap.size ≤ k_) ∧ some k_ ≠ (.slice (some ⟨go10,0,none⟩) y320.length co10 : Value).ownBlock) (.slice (some ⟨go13,0,none⟩) y325.length co27) y330) := ⟨by (with_reducible repeat (first | apply rA_ | apply rN_ | apply rD_));exact HQ34.out⟩
         have n4 : Aside0 ((w33.setCell ⟨go13,(a2 : Int).toNat,none⟩ (.int .i64 (rd y324 a2))).heap[gb315]? = some (.cells #[.slice (some ad323) l0_0.length c0_0] 24 (0,0))) := ⟨by (with_reducible repeat (first | refine bN_ ?_ _ | refine bD_ ?_ | refine bA_ ?_ _));refine blk_far ?_ (by have h_ := Kd.R_ne HO327.out BK315.out (by decide);intro e_;exact h_ (by rw [e_];rfl)) _;(with_reducible repeat (first | refine bN_ ?_ _ | refine bD_ ?_ | refine bA_ ?_ _));exact BK315.out⟩
         have n5 : Aside0 ((w33.setCell ⟨go13,(a2 : Int).toNat,none⟩ (.int .i64 (rd y324 a2))).heap[gb316]? = some (.cells #[.slice none 0 0] 24 (0,0))) := ⟨by (with_reducible repeat (first | refine bN_ ?_ _ | refine bD_ ?_ | refine bA_ ?_ _));refine blk_far ?_ (by have h_ := Kd.R_ne HO327.out BK316.out (by decide);intro e_;exact h_ (by rw [e_];rfl)) _;(with_reducible repeat (first | refine bN_ ?_ _ | refine bD_ ?_ | refine bA_ ?_ _));exact BK316.out⟩
         have n6 : Aside0 ((w33.setCell ⟨go13,(a2 : Int).toNat,none⟩ (.int .i64 (rd y324 a2))).heap[gb328]? = some (.cells #[.int .i64 a3,.slice (some ⟨go13,0,none⟩) y325.length co27] 43 (0,0))) := ⟨by (with_reducible repeat (first | refine bN_ ?_ _ | refine bD_ ?_ | refine bA_ ?_ _));refine blk_far ?_ (by have h_ := Kd.R_ne HO327.out BK328.out (by decide);intro e_;exact h_ (by rw [e_];rfl)) _;(with_reducible repeat (first | refine bN_ ?_ _ | refine bD_ ?_ | refine bA_ ?_ _));exact BK328.out⟩
         have n7 : Aside0 (Below w.heap.size w (w33.setCell ⟨go13,(a2 : Int).toNat,none⟩ (.int .i64 (rd y324 a2)))) := ⟨by repeat (first | (with_reducible first | exact HB.out | apply hA_ | apply hN_ | apply hD_ | refine below_set ?_ GB13.out | refine below_set ?_ GE315.out | refine below_set ?_ GE316.out | refine below_set ?_ GE328.out) | exact HB.out)⟩
         (try clear HO0_0)
         (try clear HO322)
         (try clear HL323_0)
         (try clear HO327)
         (try clear BK315)
         (try clear BK316)
         (try clear BK328)
         (try clear HB)
         generalize (w33.setCell ⟨go13,(a2 : Int).toNat,none⟩ (.int .i64 (rd y324 a2))) = w35 at n0 n1 n2 n3 n4 n5 n6 n7 ⊢
         have HO0_0 := n0
         have HO322 := n1
         have HL323_0 := n2
         have HO327 := n3
         have BK315 := n4
         have BK316 := n5
         have BK328 := n6
         have HB := n7
         clear n0 n1 n2 n3 n4 n5 n6 n7
         try go_wp2_with (first | ((with_reducible refine gate_dst (N := 38) rfl ?_);refine Kd.R_lit (Kd.int .i64) _ 3 ?hg (N := 38) ?hd (xs := ([] : List Int)) (inner := []) (ok := fun _ => True) (okp := fun _ => True) ?hr ?hp (fun _ hk => hk) trivial (Below.refl _ _) (Nat.le_refl _) (by simp) ?_;(case hd => rfl);(case hg => rfl);(case hr => first | (go_simp;done) | (go_simp;rfl));(case hp => exact (Reps.none _ _));intro v332 w36 ho37 hb hg_ hnew_;clear hg_ hnew_;(first | rw [← Ny331.out] at ho37 | (simp only [Int.reduceToNat] at ho37;rw [← Ny331.out] at ho37));have n0 := aM_ (Kd.V_elder' (by (with_reducible repeat (first | apply Kd.V_alloc | apply Kd.V_drewN | apply Kd.V_drew));exact HO0_0.out) (Kd.R_base ho37) hb);have n1 := aM_ (Kd.R_elder' (by (with_reducible repeat (first | apply rA_ | apply rN_ | apply rD_));exact HO322.out) (Kd.R_base ho37) hb);have n2 := aM_ (Kd.V_elder' (by (with_reducible repeat (first | apply Kd.V_alloc | apply Kd.V_drewN | apply Kd.V_drew));exact HL323_0.out) (Kd.R_base ho37) hb);have n3 := aM_ (Kd.R_elder' (by (with_reducible repeat (first | apply rA_ | apply rN_ | apply rD_));exact HO327.out) (Kd.R_base ho37) hb);have n4 := aM_ (Kd.R_lower (Kd.R_new' (Kd.R_new' (Kd.R_newM (M := fun k_ => (w.heap.size ≤ k_)) ho37 (below_size (gB_ HB.out)) (fun k_ h_ => h_)) (Kd.R_lt (by (with_reducible repeat (first | apply rA_ | apply rN_ | apply rD_));exact HO322.out))) (Kd.R_lt (by (with_reducible repeat (first | apply rA_ | apply rN_ | apply rD_));exact HO327.out))) (below_size (gB_ HB.out)));have n5 := aM_ (nB_ BK315.out hb);have n6 := aM_ (nB_ BK316.out hb);have n7 := aM_ (nB_ BK328.out hb);have n8 := aM_ (sT_ HB.out hb);clear HO0_0;clear HO322;clear HL323_0;clear HO327;clear BK315;clear BK316;clear BK328;clear HB;have HO0_0 := n0;have HO322 := n1;have HL323_0 := n2;have HO327 := n3;have HO333 := n4;have BK315 := n5;have BK316 := n6;have BK328 := n7;have HB := n8;clear n0 n1 n2 n3 n4 n5 n6 n7 n8;clear hb ho37) | ((with_reducible refine gate_builtin (b := .append) (xs := #[.tmp 38,.tmp 39]) rfl ?_);at_builtin;refine Kd.R_append_rows (Kd.int .i64) (w0 := w) w.heap.size rfl (.tmp 38) (.tmp 39) 31 3 (.int .i64 0) 8 rfl Try.underlying31 info3 rfl (by decide) (by omega) v332 y331 y324 _ _ _ (fun k_ => (w.heap.size ≤ k_) ∧ some k_ ≠ (.slice (some ⟨go10,0,none⟩) y320.length co10 : Value).ownBlock ∧ some k_ ≠ (.slice (some ⟨go13,0,none⟩) y325.length co27 : Value).ownBlock) (fun _ => False) rfl rfl ?aO ?aR (fun _ _ h => h) (fun _ h => h.elim) ?aF ?aB ?aS ?aL ?_;(case aR => rw [show y320.length = y324.length from (Kd.R_reads' HO322.out).1];repeat (first | exact (Kd.R_reads' HO322.out).2.2 | (with_reducible refine Kd.C_alloc ?_ _) | (with_reducible refine Kd.C_drewN ?_ _) | (with_reducible refine Kd.C_drew ?_)));(case aB => exact (gB_ HB.out));(case aF => exact (fun k_ hk => ⟨(Nat.le_trans (below_size (gB_ HB.out)) hk),Kd.fresh' (Kd.R_lt (by (with_reducible repeat (first | apply rA_ | apply rN_ | apply rD_));exact HO322.out)) k_ hk,Kd.fresh' (Kd.R_lt (by (with_reducible repeat (first | apply rA_ | apply rN_ | apply rD_));exact HO327.out)) k_ hk⟩));(case aO => exact (by (with_reducible repeat (first | apply rA_ | apply rN_ | apply rD_));exact Kd.R_mono HO333.out (fun _ hk => ⟨hk.1.1.1,⟨hk.1.2,hk.2⟩⟩)));(case aS => exact (below_size (gB_ HB.out)));(case aL => have := LMc15.out;have hlx_ := (Kd.R_reads' HO322.out).1;omega);intro v335 w38 ho hb hg hat;rw [← Ny334.out] at ho;have n0 := aM_ (Kd.V_afterv (ok := (fun k_ => (P0_0_ k_ ∨ w.heap.size ≤ k_) ∧ some k_ ≠ (.slice (some ⟨go10,0,none⟩) y320.length co10 : Value).ownBlock ∧ some k_ ≠ (.slice (some ⟨go13,0,none⟩) y325.length co27 : Value).ownBlock ∧ k_ ≠ gb315 ∧ k_ ≠ gb316 ∧ k_ ≠ gb328)) (by (with_reducible repeat (first | apply Kd.V_alloc | apply Kd.V_drewN | apply Kd.V_drew));exact HO0_0.out) hg hat);have n1 := aM_ (blk_grown (g := gb315) (o := .cells #[.slice (some ad323) l0_0.length c0_0] 24 (0,0)) (by (with_reducible repeat (first | refine bN_ ?_ _ | refine bD_ ?_ | refine bA_ ?_ _));exact BK315.out) hg (Kd.R_ne HO333.out BK315.out (by decide)));have n2 := aM_ (blk_grown (g := gb316) (o := .cells #[.slice none 0 0] 24 (0,0)) (by (with_reducible repeat (first | refine bN_ ?_ _ | refine bD_ ?_ | refine bA_ ?_ _));exact BK316.out) hg (Kd.R_ne HO333.out BK316.out (by decide)));have n3 := aM_ (Kd.R_after (ok := (fun k_ => (w.heap.size ≤ k_) ∧ some k_ ≠ (.slice (some ⟨go13,0,none⟩) y325.length co27 : Value).ownBlock)) (by (with_reducible repeat (first | apply rA_ | apply rN_ | apply rD_));exact HO322.out) hg hat);have n4 := aM_ (Kd.V_afterv (ok := (fun k_ => (P0_0_ k_ ∨ w.heap.size ≤ k_) ∧ some k_ ≠ (.slice (some ⟨go10,0,none⟩) y320.length co10 : Value).ownBlock ∧ some k_ ≠ (.slice (some ⟨go13,0,none⟩) y325.length co27 : Value).ownBlock ∧ k_ ≠ gb315 ∧ k_ ≠ gb316 ∧ k_ ≠ gb328)) (by (with_reducible repeat (first | apply Kd.V_alloc | apply Kd.V_drewN | apply Kd.V_drew));exact HL323_0.out) hg hat);have n5 := aM_ (Kd.R_after (ok := (fun k_ => (w.heap.size ≤ k_) ∧ some k_ ≠ (.slice (some ⟨go10,0,none⟩) y320.length co10 : Value).ownBlock)) (by (with_reducible repeat (first | apply rA_ | apply rN_ | apply rD_));exact HO327.out) hg hat);have n6 := aM_ (blk_grown (g := gb328) (o := .cells #[.int .i64 a3,.slice (some ⟨go13,0,none⟩) y325.length co27] 43 (0,0)) (by (with_reducible repeat (first | refine bN_ ?_ _ | refine bD_ ?_ | refine bA_ ?_ _));exact BK328.out) hg (Kd.R_ne HO333.out BK328.out (by decide)));have n7 := aM_ (hb);have n8 := aM_ (ho);clear HO0_0;clear BK315;clear BK316;clear HO322;clear HL323_0;clear HO327;clear BK328;clear HB;clear HO333;have HO0_0 := n0;have BK315 := n1;have BK316 := n2;have HO322 := n3;have HL323_0 := n4;have HO327 := n5;have BK328 := n6;have HB := n7;have HO336 := n8;clear n0 n1 n2 n3 n4 n5 n6 n7 n8;clear ho hb hg hat;obtain ⟨Ao39,co39,eo39⟩ := Kd.R_slice HO336.out;subst eo39;obtain ⟨hcz40_0,hcz40_1,hfz40_0,hfz40_1⟩ := bR2_ BK328.out))
         have n0 : Aside0 (Kd.V (Kd.slice 43 k43) 44 (w38.setCell ⟨gb328,1,none⟩ (.slice Ao39 y334.length co39)) w.heap.size (fun k_ => (P0_0_ k_ ∨ w.heap.size ≤ k_) ∧ some k_ ≠ (.slice (some ⟨go10,0,none⟩) y320.length co10 : Value).ownBlock ∧ some k_ ≠ (.slice (some ⟨go13,0,none⟩) y325.length co27 : Value).ownBlock ∧ some k_ ≠ (.slice Ao39 y334.length co39 : Value).ownBlock ∧ k_ ≠ gb315 ∧ k_ ≠ gb316 ∧ k_ ≠ gb328) (.slice (some ad323) l0_0.length c0_0) l0_0) := ⟨by (with_reducible repeat (first | apply Kd.V_alloc | apply Kd.V_drewN | apply Kd.V_drew));exact Kd.V_mono (Kd.V_far (p := ⟨gb328,1,none⟩) (Kd.V_mono HO0_0.out (fun k_ hk => (⟨hk,hk.1.2.2.2.2.2⟩ : _ ∧ k_ ≠ gb328))) (fun _ hk => hk.2) (.slice Ao39 y334.length co39)) (fun _ hk => ⟨hk.1.1.1,⟨hk.1.1.2.1,⟨hk.1.1.2.2.1,⟨hk.1.2,⟨hk.1.1.2.2.2.1,⟨hk.1.1.2.2.2.2.1,hk.1.1.2.2.2.2.2⟩⟩⟩⟩⟩⟩)⟩
         have n1 : Aside0 (Kd.R (Kd.int .i64) 3 (w38.setCell ⟨gb328,1,none⟩ (.slice Ao39 y334.length co39)) w.heap.size (fun k_ => (w.heap.size ≤ k_) ∧ some k_ ≠ (.slice (some ⟨go13,0,none⟩) y325.length co27 : Value).ownBlock ∧ some k_ ≠ (.slice Ao39 y334.length co39 : Value).ownBlock) (.slice (some ⟨go10,0,none⟩) y320.length co10) y324) := ⟨by (with_reducible repeat (first | apply rA_ | apply rN_ | apply rD_));exact Kd.R_mono (Kd.R_far (p := ⟨gb328,1,none⟩) (Kd.R_types HO322.out BK328.out (by decide)) (fun _ hk => hk.2) (.slice Ao39 y334.length co39)) (fun _ hk => ⟨hk.1.1.1,⟨hk.1.1.2,hk.1.2⟩⟩)⟩
         have n2 : Aside0 (Kd.V k43 43 (w38.setCell ⟨gb328,1,none⟩ (.slice Ao39 y334.length co39)) w.heap.size (fun k_ => (P0_0_ k_ ∨ w.heap.size ≤ k_) ∧ some k_ ≠ (.slice (some ⟨go10,0,none⟩) y320.length co10 : Value).ownBlock ∧ some k_ ≠ (.slice (some ⟨go13,0,none⟩) y325.length co27 : Value).ownBlock ∧ some k_ ≠ (.slice Ao39 y334.length co39 : Value).ownBlock ∧ k_ ≠ gb315 ∧ k_ ≠ gb316 ∧ k_ ≠ gb328) (.slice A323_0 (rd_L4 l0_0 a2).length c323_0) (rd_L4 l0_0 a2)) := ⟨by (with_reducible repeat (first | apply Kd.V_alloc | apply Kd.V_drewN | apply Kd.V_drew));exact Kd.V_mono (Kd.V_far (p := ⟨gb328,1,none⟩) (Kd.V_mono HL323_0.out (fun k_ hk => (⟨hk,hk.1.2.2.2.2.2⟩ : _ ∧ k_ ≠ gb328))) (fun _ hk => hk.2) (.slice Ao39 y334.length co39)) (fun _ hk => ⟨hk.1.1.1,⟨hk.1.1.2.1,⟨hk.1.1.2.2.1,⟨hk.1.2,⟨hk.1.1.2.2.2.1,⟨hk.1.1.2.2.2.2.1,hk.1.1.2.2.2.2.2⟩⟩⟩⟩⟩⟩)⟩
         have n3 : Aside0 (Kd.R (Kd.int .i64) 3 (w38.setCell ⟨gb328,1,none⟩ (.slice Ao39 y334.length co39)) w.heap.size (fun k_ => (w.heap.size ≤ k_) ∧ some k_ ≠ (.slice (some ⟨go10,0,none⟩) y320.length co10 : Value).ownBlock ∧ some k_ ≠ (.slice Ao39 y334.length co39 : Value).ownBlock) (.slice (some ⟨go13,0,none⟩) y325.length co27) y330) := ⟨by (with_reducible repeat (first | apply rA_ | apply rN_ | apply rD_));exact Kd.R_mono (Kd.R_far (p := ⟨gb328,1,none⟩) (Kd.R_types HO327.out BK328.out (by decide)) (fun _ hk => hk.2) (.slice Ao39 y334.length co39)) (fun _ hk => ⟨hk.1.1.1,⟨hk.1.1.2,hk.1.2⟩⟩)⟩
         have n4 : Aside0 (Kd.R (Kd.int .i64) 3 (w38.setCell ⟨gb328,1,none⟩ (.slice Ao39 y334.length co39)) w.heap.size (fun k_ => (w.heap.size ≤ k_) ∧ some k_ ≠ (.slice (some ⟨go10,0,none⟩) y320.length co10 : Value).ownBlock ∧ some k_ ≠ (.slice (some ⟨go13,0,none⟩) y325.length co27 : Value).ownBlock) (.slice Ao39 y334.length co39) y334) := ⟨by (with_reducible repeat (first | apply rA_ | apply rN_ | apply rD_));exact Kd.R_mono (Kd.R_far (p := ⟨gb328,1,none⟩) (Kd.R_types HO336.out BK328.out (by decide)) (fun _ hk => hk.2) (.slice Ao39 y334.length co39)) (fun _ hk => ⟨hk.1.1,⟨hk.1.2.1,hk.1.2.2⟩⟩)⟩
         have n5 : Aside0 ((w38.setCell ⟨gb328,1,none⟩ (.slice Ao39 y334.length co39)).heap[gb315]? = some (.cells #[.slice (some ad323) l0_0.length c0_0] 24 (0,0))) := ⟨by (with_reducible repeat (first | refine bN_ ?_ _ | refine bD_ ?_ | refine bA_ ?_ _));refine blk_far ?_ NB315_328.out _;(with_reducible repeat (first | refine bN_ ?_ _ | refine bD_ ?_ | refine bA_ ?_ _));exact BK315.out⟩
         have n6 : Aside0 ((w38.setCell ⟨gb328,1,none⟩ (.slice Ao39 y334.length co39)).heap[gb316]? = some (.cells #[.slice none 0 0] 24 (0,0))) := ⟨by (with_reducible repeat (first | refine bN_ ?_ _ | refine bD_ ?_ | refine bA_ ?_ _));refine blk_far ?_ NB316_328.out _;(with_reducible repeat (first | refine bN_ ?_ _ | refine bD_ ?_ | refine bA_ ?_ _));exact BK316.out⟩
         have n7 : Aside0 ((w38.setCell ⟨gb328,1,none⟩ (.slice Ao39 y334.length co39)).heap[gb328]? = some (.cells #[.int .i64 a3,.slice Ao39 y334.length co39] 43 (0,0))) := ⟨by (with_reducible repeat (first | refine bN_ ?_ _ | refine bD_ ?_ | refine bA_ ?_ _));refine blk_put (cs := #[.int .i64 a3,.slice (some ⟨go13,0,none⟩) y325.length co27]) ?_ 1 _ rfl;(with_reducible repeat (first | refine bN_ ?_ _ | refine bD_ ?_ | refine bA_ ?_ _));exact BK328.out⟩
         have n8 : Aside0 (Below w.heap.size w (w38.setCell ⟨gb328,1,none⟩ (.slice Ao39 y334.length co39))) := ⟨gW_ HB.out⟩
         (try clear HO0_0)
         (try clear HO322)
         (try clear HL323_0)
         (try clear HO327)
         (try clear HO336)
         (try clear BK315)
         (try clear BK316)
         (try clear BK328)
         (try clear HB)
         generalize (w38.setCell ⟨gb328,1,none⟩ (.slice Ao39 y334.length co39)) = w41 at n0 n1 n2 n3 n4 n5 n6 n7 n8 ⊢
         have HO0_0 := n0
         have HO322 := n1
         have HL323_0 := n2
         have HO327 := n3
         have HO336 := n4
         have BK315 := n5
         have BK316 := n6
         have BK328 := n7
         have HB := n8
         clear n0 n1 n2 n3 n4 n5 n6 n7 n8
         have n0 := aM_ (Kd.V_drew HO0_0.out)
         have n1 := aM_ (Kd.R_drew HO322.out)
         have n2 := aM_ (Kd.V_drew HL323_0.out)
         have n3 := aM_ (Kd.R_drew HO327.out)
         have n4 := aM_ (Kd.R_drew HO336.out)
         have n5 := aM_ (blk_drew BK315.out)
         have n6 := aM_ (blk_drew BK316.out)
         have n7 := aM_ (blk_drew BK328.out)
         have n8 := aM_ (below_drew1 HB.out)
         clear HO0_0
         clear HO322
         clear HL323_0
         clear HO327
         clear HO336
         clear BK315
         clear BK316
         clear BK328
         clear HB
         have HO0_0 := n0
         have HO322 := n1
         have HL323_0 := n2
         have HO327 := n3
         have HO336 := n4
         have BK315 := n5
         have BK316 := n6
         have BK328 := n7
         have HB := n8
         clear n0 n1 n2 n3 n4 n5 n6 n7 n8
         have hbs_ := below_size HB.out
         have HSm := aM_ (Kd.S_old hS.out HB.out)
         have hp_ : 0 ≤ a2 := of_decide_eq_true c7b0
         have hq_ : a2 < (l0_0.length : Int) := of_decide_eq_true c8b0
         obtain ⟨gM,rfl⟩ := Kd.R_head (Kd.S_R HSm.out)
         obtain ⟨oki,Ae,ce,hSe,hcM,hoki,⟨cellsM,hBM⟩,hback⟩ := S_push HSm.out a2 hp_ hq_
         have HSe := aM_ hSe
         have BKM := aM_ hBM
         have hkM := aM_ ((blk_cell hBM (a2).toNat).symm.trans hcM)
         have HBK := aM_ hback
         have HOK := aM_ hoki
         have HGM : Aside0 (gM < w.heap.size) := ⟨((Kd.S_R HSm.out).1 gM rfl).2⟩
         have HRW : Aside0 (∀ k,(Value.slice Ae (rd_L4 l0_0 a2).length ce).ownBlock = some k → P0_0_ k ∧ k < w.heap.size) := ⟨fun k hk => (hoki k ((Kd.S_R hSe).1 k hk)).1⟩
         clear hSe hBM hcM hback hoki hp_ hq_
         refine start_ (n := 13) (S := fun w' => w'.cell? ⟨gb315,0,none⟩ = some (.slice (some ⟨gM,0,none⟩) l0_0.length c0_0) ∧ w'.cell? ⟨gM,(a2).toNat,none⟩ = some (.slice Ae (rd_L4 l0_0 a2).length ce) ∧ w'.cell? ⟨gb328,0,none⟩ = some (.int .i64 a3) ∧ w'.cell? ⟨gb328,1,none⟩ = some (.slice Ao39 y334.length co39)) (ds := [12]) #[false,false,false,false,false,false,false,false,false,false,false,false,false] (by kernel_rfl) rfl rfl ⟨(blk_cell (BK315.out) 0).trans rfl,(blk_cell (BKM.out) _).trans hkM.out,(blk_cell (BK328.out) 0).trans rfl,(blk_cell (BK328.out) 1).trans rfl⟩ (fun hHeld => ?_)
         generalize w41.drew = w42 at HO0_0 HO322 HL323_0 HO327 HO336 BK315 BK316 BK328 HB HSm HSe BKM HBK hbs_ hHeld ⊢
         refine pU_ 0 (some 42) (mk_ 13 1) ?_
         refine pU_ 2 (some 44) (mk_ 13 5) ?_
         refine pU_ 3 (some 45) (mk_ 13 13) ?_
         refine pU_ 5 (some 47) (mk_ 13 45) ?_
         refine tK4_ 1 (some 43) (mk_ 13 47) ?_
         refine tK4_ 4 (some 46) (mk_ 13 63) ?_
         refine pU_ 6 (some 48) (mk_ 13 127) ?_
         refine tK4_ 7 (some 49) (mk_ 13 255) ?_
         refine tK4_ 8 (some 50) (mk_ 13 511) ?_
         refine oN_ 9 (some 51) (mk_ 13 1023) (fun K hK => ?_)
         refine value_ (w1 := ?_) (v := ?_) (by rfl) rfl ?_ ?_
         rotate_left 2
         ·go_simp
          constructor
          ·rfl
          ·rfl
         refine hK.out _ _ ⟨(blk_cell (blk_alloc BK315.out _) 0).trans rfl,(blk_cell (blk_alloc BKM.out _) _).trans hkM.out,(blk_cell (blk_alloc BK328.out _) 0).trans rfl,(blk_cell (blk_alloc BK328.out _) 1).trans rfl⟩ (fun hHeld => ?_)
         clear hK K
         refine norm_ (a' := ?_) ?_ ?_
         rotate_left
         ·show Act.put _ (some 51) _ = _
          simp only [pt_,pn_,sI_,s0_,s1_,i64_w,i32_w]
          rfl
         refine oN_ 10 (some 52) (mk_ 13 2047) (fun K hK => ?_)
         have hT1 := HO336.out.1
         have hT2 : ∀ k,(.slice Ao39 y334.length co39 : Value).ownBlock = some k → w.heap.size ≤ k := Kd.R_base HO336.out
         refine Kd.S_append_step k43 (w0 := w) b0 (by rfl) (.tmp 49) (.tmp 51) 44 43 (.agg #[(.int .i64 0),(.slice none 0 0)]) 32 rfl Try.underlying44 info43 rfl (by decide) (by omega) (.slice Ae (rd_L4 l0_0 a2).length ce) (rd_L4 l0_0 a2) (⟨a3,y334⟩ : S43) [.int .i64 a3,.slice Ao39 y334.length co39] (fun k_ => oki k_ ∨ (w.heap.size ≤ k_ ∧ some k_ ≠ (.slice (some ⟨go10,0,none⟩) y320.length co10 : Value).ownBlock)) (fun k_ => some k_ = (.slice Ao39 y334.length co39 : Value).ownBlock) rfl rfl ?aP ?aK ?aF ?aO ?aB ?aS ?aL ?_
         (case aP => exact k43_mkM _ _ _ (⟨a3,y334⟩ : S43) (Kd.R_mono (Kd.R_tight rfl (Kd.R_lower HO336.out hb0w.out)) (fun _ h_ => h_)))
         (case aK => exact fun k hk => ⟨.inr ⟨hT2 k hk.symm,by have h1 := hT1 k hk.symm;first | exact h1.2.1 | exact h1.2 | exact h1.1 | exact h1.1.2 | exact h1⟩,fun e => absurd (hT2 k hk.symm) (Nat.not_le.2 (HRW.out k e.symm).2)⟩)
         (case aF => exact fun k hk => .inr ⟨Nat.le_trans hbs_ hk,fun e => Nat.not_le.2 (Kd.R_lt HO322.out k e.symm) hk⟩)
         (case aO => exact Kd.S_mono HSe.out (fun k hk => ⟨.inl hk,fun e => absurd (hT2 k e.symm) (Nat.not_le.2 (HOK.out k hk).1.2)⟩))
         (case aB => exact HB.out.mono hb0w.out)
         (case aS => exact Nat.le_trans hb0w.out hbs_)
         (case aL => have := LMcP.out;omega)
         intro vP wP ho hb hg hat
         rw [← NyP.out] at ho
         have hnb : ∀ {g t : Nat} {cs : Array Value},w42.heap[g]? = some (.cells cs t (0,0)) → t ≠ 43 → some g ≠ (Value.slice Ae (rd_L4 l0_0 a2).length ce).ownBlock := fun hb_ ht => Kd.S_ne HSe.out hb_ (Ne.symm ht)
         have HKP : Aside0 (Kept w wP P0_0_) := ⟨Kept.of_grown hg (Kept.of_below HB.out P0_0_) (fun k e => .inl (HRW.out k e).1)⟩
         have BK315n := aM_ (blk_grown BK315.out hg (hnb BK315.out (by decide)))
         have BK316n := aM_ (blk_grown BK316.out hg (hnb BK316.out (by decide)))
         have BKMn := aM_ (blk_grown BKM.out hg (hnb BKM.out (by decide)))
         have BK328n := aM_ (blk_grown BK328.out hg (fun e => absurd GE328.out (Nat.not_le.2 (HRW.out _ e.symm).2)))
         have HO322n := aM_ (Kd.R_mono (Kd.R_grown (Kd.R_bound HO322.out) hg (fun k hk e => absurd hk.2.1 (Nat.not_le.2 (HRW.out k e.symm).2))) (fun _ hk => hk.1))
         clear hT1 hT2 hnb
         clear BK315 BK316 BKM BK328 HO322 HB HSm
         have BK315 := BK315n
         have BK316 := BK316n
         have BKM := BKMn
         have BK328 := BK328n
         have HO322 := HO322n
         clear BK315n BK316n BKMn BK328n HO322n
         obtain ⟨An,cn,rfl⟩ := Kd.S_slice ho
         have HP := aM_ ho
         have HBP : Aside0 (Below b0 w wP) := ⟨hb⟩
         have HG := aM_ hg
         clear ho hb hg hat
         refine hK.out _ _ ⟨(blk_cell (BK315.out) 0).trans rfl,(blk_cell (BKM.out) _).trans hkM.out,(blk_cell (BK328.out) 0).trans rfl,(blk_cell (BK328.out) 1).trans rfl⟩ (fun hHeld => ?_)
         clear hK K
         refine norm_ (a' := ?_) ?_ ?_
         rotate_left
         ·show Act.put _ (some 52) _ = _
          simp only [pt_,pn_,sI_,s0_,s1_,i64_w,i32_w]
          rfl
         refine pU_ 11 (some 53) (mk_ 13 4095) ?_
         refine last_ (i := 12) (N := none) #[true,true,true,true,true,true,true,true,true,true,true,true,true] rfl rfl (by kernel_rfl) (by decide) (fun K hK => ?_)
         have hsM : wP.cell? ⟨gM,(a2).toNat,none⟩ = some (.slice Ae (rd_L4 l0_0 a2).length ce) := (blk_cell BKM.out _).trans hkM.out
         have hfM := blk_frozen BKM.out (a2).toNat
         refine skip_ (w1 := ?_) (by rfl) rfl ?_ ?_
         rotate_left
         ·go_simp
          rfl
         refine hK.out _ _ ?_
         clear hK K
         refine done_ (by kernel_rfl) ?_
         have HSn := aM_ (HBK.out wP (.slice An yP.length cn) yP (fun k_ => w.heap.size ≤ k_ ∧ some k_ ≠ (.slice (some ⟨go10,0,none⟩) y320.length co10 : Value).ownBlock) HG.out HP.out (fun k hk => ⟨fun h => Nat.not_le.2 h.2 hk.1,fun e => absurd (e ▸ hk.1) (Nat.not_le.2 HGM.out)⟩))
         replace BK315 := aM_ (blk_far (p := ⟨gM,(a2).toNat,none⟩) BK315.out (by intro e_;have h_ := BK315.out;rw [show _ = gM from e_,BKM.out] at h_;simp at h_) (.slice An yP.length cn))
         replace BK316 := aM_ (blk_far (p := ⟨gM,(a2).toNat,none⟩) BK316.out (by intro e_;have h_ := BK316.out;rw [show _ = gM from e_,BKM.out] at h_;simp at h_) (.slice An yP.length cn))
         replace HO322 := aM_ (Kd.R_mono (Kd.R_far (p := ⟨gM,(a2).toNat,none⟩) (Kd.R_bound HO322.out) (fun k hk e => absurd hk.2.1 (Nat.not_le.2 (show k < w.heap.size from (show k = gM from e) ▸ HGM.out))) (.slice An yP.length cn)) (fun _ hk => hk.1))
         replace HKP := aM_ (HKP.out.setCell (p := ⟨gM,(a2).toNat,none⟩) (.inl ((Kd.S_R hS.out).1 gM rfl)) (.slice An yP.length cn))
         replace HBP : Aside0 (Below b0 w (wP.setCell ⟨gM,(a2).toNat,none⟩ (.slice An yP.length cn))) := ⟨HBP.out.setCell (Kd.S_base hS.out gM rfl) _⟩
         clear hsM hfM HG HP HBK HSe BKM hkM HOK HRW hHeld
         generalize (wP.setCell ⟨gM,(a2).toNat,none⟩ (.slice An yP.length cn)) = wQ at HSn HKP HBP BK315 BK316 HO322 ⊢
         have hcz43_0 : wQ.cell? ⟨gb315,0,none⟩ = some (.slice (some ⟨gM,0,none⟩) l0_0.length c0_0) := (blk_cell BK315.out 0).trans rfl
         have hfz43_0 := blk_frozen BK315.out 0
         have hcz44_0 : wQ.cell? ⟨gb316,0,none⟩ = some (.slice none 0 0) := (blk_cell BK316.out 0).trans rfl
         have hfz44_0 := blk_frozen BK316.out 0
         try go_wp2
         refine bodyPost_ret (results_ct rfl _ _ gb316 24 #[.slice (some ⟨gM,0,none⟩) l0_0.length c0_0] (0,0) _ rfl (by (with_reducible repeat (first | refine bN_ ?_ _ | refine bD_ ?_ | refine bA_ ?_ _));refine blk_put (cs := #[.slice none 0 0]) ?_ 0 _ rfl;exact rW_ BK316.out) Try.underlying24 rfl (by kernel_rfl)) rfl ?_
         exact ⟨_,_,by first | rfl | (simp [*];done),Kd.S_mono (Kd.S_set HSn.out BK316.out (by decide) 0 _) (fun k hk => hk.elim (fun h => ⟨.inl h.1,fun e => absurd (Kd.R_base HO322.out k e.symm) (Nat.not_le.2 h.2)⟩) (fun h => ⟨.inr h.1,h.2⟩)),Kd.R_mono (Kd.R_far (p := ⟨gb316,0,none⟩) (Kd.R_types HO322.out BK316.out (by decide)) (fun _ hk => hk.2) _) (fun _ hk => (by first | exact hk.1.1 | exact hk.1)),HBP.out.setCell (Nat.le_trans hb0w.out GE316.out) _,HKP.out.setCell (p := ⟨gb316,0,none⟩) (.inr GE316.out) _⟩
        ·rw [if_neg c15] at H
         exact absurd H (by simp)
       ·replace c14 := Bool.eq_false_iff.mpr c14
        subst c14
        have H1 : (if (rd_L4 l0_0 a2).length < 4398046511104 then (some (l0_0.set (a2 : Int).toNat (rd_L4 l0_0 a2 ++ [(⟨a3,y330⟩ : S43)]),y324)) else (none)) = some (r1,r2) := by rw [if_neg (show ¬ (false = true) by decide)] at H;exact H
        clear H
        have H := H1
        clear H1
        by_cases cP : (rd_L4 l0_0 a2).length < 4398046511104
        case neg => rw [if_neg cP] at H;exact absurd H (by simp)
        rw [if_pos cP] at H
        have LMcP := aM_ cP
        clear cP
        obtain ⟨yP,hyP⟩ : ∃ y_ : List S43,y_ = rd_L4 l0_0 a2 ++ [(⟨a3,y330⟩ : S43)] := ⟨_,rfl⟩
        replace H : (some (l0_0.set (a2 : Int).toNat yP,y324)) = some (r1,r2) := by rw [hyP];exact H
        have NyP := aM_ hyP
        clear hyP
        simp only [Option.some.injEq,Prod.mk.injEq] at H
        obtain ⟨rfl,rfl⟩ := H
        go_enter Try.func86,Try.ntmps86
        try go_wp2_with (first | ((with_reducible refine gate_dst (N := 5) rfl ?_);refine bX_ 5 (cs := #[.slice A0_0 l0_0.length c0_0]) (t := 24) ?_;intro gb315 hg w45 hbox hb;have n0 := aM_ (Kd.V_below (Kd.V_elderB (by (with_reducible repeat (first | apply Kd.V_alloc | apply Kd.V_drewN | apply Kd.V_drew));exact HO0_0.out) gb315 (Nat.le_of_eq hg.symm)) hb);have n1 := aM_ (sT_ HB.out hb);have n2 := aM_ (hbox);have n3 := aM_ (sZ_ hg HB.out);have n4 := aM_ (sZ_ hg HB.out);clear HO0_0;clear HB;have HO0_0 := n0;have HB := n1;have BK315 := n2;have GW315 := n3;have GE315 := n4;clear n0 n1 n2 n3 n4;clear hb hbox hg) | ((with_reducible refine gate_dst (N := 10) rfl ?_);refine bX_ 10 (cs := #[.slice none 0 0]) (t := 24) ?_;intro gb316 hg w46 hbox hb;have n0 := aM_ (Kd.V_below (Kd.V_elderB (by (with_reducible repeat (first | apply Kd.V_alloc | apply Kd.V_drewN | apply Kd.V_drew));exact HO0_0.out) gb316 (Nat.le_of_eq hg.symm)) hb);have n1 := aM_ (nB_ BK315.out hb);have n2 := aM_ (sT_ HB.out hb);have n3 := aM_ (hbox);have n4 := aM_ (sZ_ hg HB.out);have n5 := aM_ (sZ_ hg HB.out);have n6 := aM_ (nL_ hg BK315.out);have n7 := aM_ (nG_ hg BK315.out);clear HO0_0;clear BK315;clear HB;have HO0_0 := n0;have BK315 := n1;have HB := n2;have BK316 := n3;have GW316 := n4;have GE316 := n5;have NB315_316 := n6;have NB316_315 := n7;clear n0 n1 n2 n3 n4 n5 n6 n7;clear hb hbox hg) | ((with_reducible refine gate_dst (N := 14) rfl ?_);refine Kd.R_lit (Kd.int .i64) _ 3 ?hg (N := 14) ?hd (xs := ([] : List Int)) (inner := []) (ok := fun _ => True) (okp := fun _ => True) ?hr ?hp (fun _ hk => hk) trivial (Below.refl _ _) (Nat.le_refl _) (by simp) ?_;(case hd => rfl);(case hg => rfl);(case hr => first | (go_simp;done) | (go_simp;rfl));(case hp => exact (Reps.none _ _));intro v318 w47 ho48 hb hg_ hnew_;clear hg_ hnew_;(first | rw [← Ny317.out] at ho48 | (simp only [Int.reduceToNat] at ho48;rw [← Ny317.out] at ho48));have n0 := aM_ (Kd.V_elder' (by (with_reducible repeat (first | apply Kd.V_alloc | apply Kd.V_drewN | apply Kd.V_drew));exact HO0_0.out) (Kd.R_base ho48) hb);have n1 := aM_ (Kd.R_lower (Kd.R_newM (M := fun k_ => (w.heap.size ≤ k_)) ho48 (below_size (gB_ HB.out)) (fun k_ h_ => h_)) (below_size (gB_ HB.out)));have n2 := aM_ (nB_ BK315.out hb);have n3 := aM_ (nB_ BK316.out hb);have n4 := aM_ (sT_ HB.out hb);clear HO0_0;clear BK315;clear BK316;clear HB;have HO0_0 := n0;have HO319 := n1;have BK315 := n2;have BK316 := n3;have HB := n4;clear n0 n1 n2 n3 n4;clear hb ho48) | ((with_reducible refine gate_builtin (b := .append) (xs := #[.tmp 14,.tmp 15]) rfl ?_);at_builtin;refine Kd.R_append_rows (Kd.int .i64) (w0 := w) w.heap.size rfl (.tmp 14) (.tmp 15) 31 3 (.int .i64 0) 8 rfl Try.underlying31 info3 rfl (by decide) (by omega) v318 y317 l1 _ _ _ (fun k_ => (w.heap.size ≤ k_)) (fun _ => False) rfl rfl ?aO ?aR (fun _ _ h => h) (fun _ h => h.elim) ?aF ?aB ?aS ?aL ?_;(case aR => repeat (first | exact (Kd.C_below HR1.out HB.out) | (with_reducible refine Kd.C_alloc ?_ _) | (with_reducible refine Kd.C_drewN ?_ _) | (with_reducible refine Kd.C_drew ?_)));(case aB => exact (gB_ HB.out));(case aF => exact (fun k_ hk => (Nat.le_trans (below_size (gB_ HB.out)) hk)));(case aO => exact (by (with_reducible repeat (first | apply rA_ | apply rN_ | apply rD_));exact Kd.R_mono HO319.out (fun _ hk => hk.1)));(case aS => exact (below_size (gB_ HB.out)));(case aL => have := LMc6.out;omega);intro v321 w49 ho hb hg hat;rw [← Ny320.out] at ho;have n0 := aM_ (Kd.V_afterv (ok := (fun k_ => (P0_0_ k_ ∨ w.heap.size ≤ k_) ∧ k_ ≠ gb315 ∧ k_ ≠ gb316)) (by (with_reducible repeat (first | apply Kd.V_alloc | apply Kd.V_drewN | apply Kd.V_drew));exact Kd.V_mono HO0_0.out (fun _ hk => ⟨⟨hk.1.1.1,⟨hk.1.1.2,hk.1.2⟩⟩,hk.2⟩)) hg hat);have n1 := aM_ (blk_grown (g := gb315) (o := .cells #[.slice A0_0 l0_0.length c0_0] 24 (0,0)) (by (with_reducible repeat (first | refine bN_ ?_ _ | refine bD_ ?_ | refine bA_ ?_ _));exact BK315.out) hg (Kd.R_ne HO319.out BK315.out (by decide)));have n2 := aM_ (blk_grown (g := gb316) (o := .cells #[.slice none 0 0] 24 (0,0)) (by (with_reducible repeat (first | refine bN_ ?_ _ | refine bD_ ?_ | refine bA_ ?_ _));exact BK316.out) hg (Kd.R_ne HO319.out BK316.out (by decide)));have n3 := aM_ (hb);have n4 := aM_ (ho);clear HO0_0;clear BK315;clear BK316;clear HB;clear HO319;have HO0_0 := n0;have BK315 := n1;have BK316 := n2;have HB := n3;have HO322 := n4;clear n0 n1 n2 n3 n4;clear ho hb hg hat;have hnb50 := NB315_316.out;have hnc50 := NB316_315.out;have hcz51_0 : w49.cell? ⟨gb315,0,none⟩ = some (.slice A0_0 l0_0.length c0_0) := (blk_cell BK315.out 0).trans rfl;have hfz51_0 := blk_frozen BK315.out 0;have p323 : 0 ≤ (a2 : Int) := of_decide_eq_true (by first | (with_reducible assumption) | assumption);have q323 : a2 < (l0_0.length : Int) := of_decide_eq_true (by first | (with_reducible assumption) | assumption);obtain ⟨ad323,A323_0,c323_0,e323,hx323_0,hl323_0,hi323_0⟩ := at_L4 (Kd.V_reads' HO0_0.out).2.2 a2 p323 q323;cases e323;obtain ⟨ce323,hce323,hMe323,hcc323⟩ := Kd.V_get HO0_0.out [] a2 p323 (by first | exact q323 | exact of_decide_eq_true (by first | (with_reducible assumption) | assumption) | (have e_ := (Kd.V_reads' HO0_0.out).1;omega));obtain ⟨ua323_0,uc323_0,rfl,ul323_0,ge323_0⟩ := Kd.FK_slice_open hMe323;have hv323_0 := hcc323 0 _ rfl;rw [Nat.add_zero,show ((Kd.slice 43 k43)).sz = 1 from rfl,Nat.mul_one] at hv323_0;replace hv323_0 := Option.some.inj (hv323_0.symm.trans hx323_0);injection hv323_0 with hva_ hvn_ hvc_;rw [hva_] at ge323_0;rw [hvc_] at ul323_0;have HL323_0 := aM_ (show Kd.V k43 43 _ w.heap.size _ _ (rd_L4 l0_0 a2) from Kd.V_mk ul323_0 ge323_0);clear hva_ hvn_ hvc_ ge323_0 ul323_0;clear hcc323 hce323;have HR323_0 := aM_ hi323_0;have HC323_0 := aM_ hl323_0;clear hi323_0 hl323_0;replace p323 := eq_true p323;replace q323 := eq_true q323;have p10 : 0 ≤ (a2 : Int) := of_decide_eq_true (by first | (with_reducible assumption) | assumption);have q10 : (a2 : Int) < ((y320.length : Int) : Int) := of_decide_eq_true (by first | (with_reducible assumption) | assumption);obtain ⟨go10,co10,eo10,gb10,gl10,cl10,HG10⟩ := Kd.R_form HO322.out (by omega);(first | cases eo10 | (injection eo10 with ea_ en_ ec_;(first | subst ea_ | (injection ea_ with ea_;subst ea_));subst ec_;clear en_));have GB10 := aM_ gb10;have GG10 := aM_ HG10;clear gb10 gl10 HG10;obtain ⟨hx10_0,hf10_0⟩ := Kd.R_celln 0 HO322.out (a2 : Int) p10 q10;replace p10 := eq_true p10;replace q10 := eq_true q10;obtain ⟨hy52_,hz52_⟩ := Kd.R_celln 0 HO322.out (a2 : Int) (of_decide_eq_true (by first | (with_reducible assumption) | assumption)) (of_decide_eq_true (by first | (with_reducible assumption) | assumption));have HP52 := Kd.R_putg HO322.out (a2 : Int) ((rd_L4 l0_0 a2).length : Int)) | ((with_reducible refine gate_store (t := 3) (p := 25) rfl ?_);refine store_event (t := 3) (p := 25) (v := ?vo_w53) (w1 := (w49.setCell ⟨go10,(a2 : Int).toNat,none⟩ (.int .i64 ((rd_L4 l0_0 a2).length : Int)))) ?hg ?ho ?hn ?hr ?_;(case ho => rfl);(case hg => rfl);(case hn => rfl);(case hr => first | (go_simp;done) | (go_simp;rfl));intro w53 hw;have hg : w49.grownBy w53 (some go10) := (by rw [hw];exact HP52.2);have hp_ : Kd.R (Kd.int .i64) 3 w53 w.heap.size (fun k_ => (w.heap.size ≤ k_)) (.slice (some ⟨go10,0,none⟩) y320.length co10) y324 := (by rw [hw,Ny324.out];exact HP52.1);clear HP52;have n0 := aM_ (Kd.V_afterv (v := (.slice (some ⟨go10,0,none⟩) y320.length co10)) (v1 := (.slice (some ⟨go10,0,none⟩) y320.length co10)) (ok := (fun k_ => (P0_0_ k_ ∨ w.heap.size ≤ k_) ∧ k_ ≠ gb315 ∧ k_ ≠ gb316)) (by (with_reducible repeat (first | apply Kd.V_alloc | apply Kd.V_drewN | apply Kd.V_drew));exact HO0_0.out) hg (.inl rfl));have n1 := aM_ (blk_grown (g := gb315) (o := .cells #[.slice (some ad323) l0_0.length c0_0] 24 (0,0)) (by (with_reducible repeat (first | refine bN_ ?_ _ | refine bD_ ?_ | refine bA_ ?_ _));exact BK315.out) hg (Kd.R_ne HO322.out BK315.out (by decide)));have n2 := aM_ (blk_grown (g := gb316) (o := .cells #[.slice none 0 0] 24 (0,0)) (by (with_reducible repeat (first | refine bN_ ?_ _ | refine bD_ ?_ | refine bA_ ?_ _));exact BK316.out) hg (Kd.R_ne HO322.out BK316.out (by decide)));have n3 := aM_ (hp_);have n4 := aM_ (Kd.V_afterv (v := (.slice (some ⟨go10,0,none⟩) y320.length co10)) (v1 := (.slice (some ⟨go10,0,none⟩) y320.length co10)) (ok := (fun k_ => (P0_0_ k_ ∨ w.heap.size ≤ k_) ∧ k_ ≠ gb315 ∧ k_ ≠ gb316)) (by (with_reducible repeat (first | apply Kd.V_alloc | apply Kd.V_drewN | apply Kd.V_drew));exact HL323_0.out) hg (.inl rfl));have n5 := aM_ ((by rw [hw];exact below_set (HB.out) GB10.out : Below w.heap.size w w53));clear HO0_0;clear BK315;clear BK316;clear HO322;clear HL323_0;clear HB;have HO0_0 := n0;have BK315 := n1;have BK316 := n2;have HO322 := n3;have HL323_0 := n4;have HB := n5;clear n0 n1 n2 n3 n4 n5;clear hg hw hp_) | ((with_reducible refine gate_dst (N := 27) rfl ?_);refine Kd.R_make (Kd.int .i64) _ 3 rfl (N := 27) rfl 31 _ _ rfl 24 rfl rfl Try.underlying31 (.int .i64 0) 8 info3 rfl (by decide) (by omega) 0 (ok := fun _ => True) (okp := fun _ => True) rfl (fun _ hk => hk) trivial (by omega) (by omega) (Below.refl _ _) (Nat.le_refl _) ?_;intro v326 w54 ho55 hb hg_ hnew_;clear hg_ hnew_;(first | rw [← Ny325.out] at ho55 | (simp only [Int.reduceToNat] at ho55;rw [← Ny325.out] at ho55));have n0 := aM_ (Kd.V_elder' (by (with_reducible repeat (first | apply Kd.V_alloc | apply Kd.V_drewN | apply Kd.V_drew));exact HO0_0.out) (Kd.R_base ho55) hb);have n1 := aM_ (Kd.R_elder' (by (with_reducible repeat (first | apply rA_ | apply rN_ | apply rD_));exact HO322.out) (Kd.R_base ho55) hb);have n2 := aM_ (Kd.V_elder' (by (with_reducible repeat (first | apply Kd.V_alloc | apply Kd.V_drewN | apply Kd.V_drew));exact HL323_0.out) (Kd.R_base ho55) hb);have n3 := aM_ (Kd.R_lower (Kd.R_new' (Kd.R_newM (M := fun k_ => (w.heap.size ≤ k_)) ho55 (below_size (gB_ HB.out)) (fun k_ h_ => h_)) (Kd.R_lt (by (with_reducible repeat (first | apply rA_ | apply rN_ | apply rD_));exact HO322.out))) (below_size (gB_ HB.out)));have n4 := aM_ (nB_ BK315.out hb);have n5 := aM_ (nB_ BK316.out hb);have n6 := aM_ (sT_ HB.out hb);clear HO0_0;clear HO322;clear HL323_0;clear BK315;clear BK316;clear HB;have HO0_0 := n0;have HO322 := n1;have HL323_0 := n2;have HO327 := n3;have BK315 := n4;have BK316 := n5;have HB := n6;clear n0 n1 n2 n3 n4 n5 n6;clear hb ho55;obtain ⟨Ao56,co56,eo56⟩ := Kd.R_slice HO327.out;subst eo56) | ((with_reducible refine gate_dst (N := 13) rfl ?_);refine bX_ 13 (cs := #[.int .i64 0,.slice none 0 0]) (t := 43) ?_;intro gb328 hg w57 hbox hb;have n0 := aM_ (Kd.V_below (Kd.V_elderB (by (with_reducible repeat (first | apply Kd.V_alloc | apply Kd.V_drewN | apply Kd.V_drew));exact HO0_0.out) gb328 (Nat.le_of_eq hg.symm)) hb);have n1 := aM_ (bR_ HO322.out hb);have n2 := aM_ (Kd.V_below (Kd.V_elderB (by (with_reducible repeat (first | apply Kd.V_alloc | apply Kd.V_drewN | apply Kd.V_drew));exact HL323_0.out) gb328 (Nat.le_of_eq hg.symm)) hb);have n3 := aM_ (bR_ HO327.out hb);have n4 := aM_ (nB_ BK315.out hb);have n5 := aM_ (nB_ BK316.out hb);have n6 := aM_ (sT_ HB.out hb);have n7 := aM_ (hbox);have n8 := aM_ (sZ_ hg HB.out);have n9 := aM_ (sZ_ hg HB.out);have n10 := aM_ (nL_ hg BK315.out);have n11 := aM_ (nG_ hg BK315.out);have n12 := aM_ (nL_ hg BK316.out);have n13 := aM_ (nG_ hg BK316.out);clear HO0_0;clear HO322;clear HL323_0;clear HO327;clear BK315;clear BK316;clear HB;have HO0_0 := n0;have HO322 := n1;have HL323_0 := n2;have HO327 := n3;have BK315 := n4;have BK316 := n5;have HB := n6;have BK328 := n7;have GW328 := n8;have GE328 := n9;have NB315_328 := n10;have NB328_315 := n11;have NB316_328 := n12;have NB328_316 := n13;clear n0 n1 n2 n3 n4 n5 n6 n7 n8 n9 n10 n11 n12 n13;clear hb hbox hg;have hnb58 := NB328_315.out;have hnc58 := NB315_328.out;have hnb59 := NB328_316.out;have hnc59 := NB316_328.out;obtain ⟨hcz60_0,hcz60_1,hfz60_0,hfz60_1⟩ := bR2_ BK328.out))
        have n0 : Aside0 (Kd.V (Kd.slice 43 k43) 44 ((w57.setCell ⟨gb328,0,none⟩ (.int .i64 a3)).setCell ⟨gb328,1,none⟩ (.slice Ao56 y325.length co56)) w.heap.size (fun k_ => (P0_0_ k_ ∨ w.heap.size ≤ k_) ∧ some k_ ≠ (.slice (some ⟨go10,0,none⟩) y320.length co10 : Value).ownBlock ∧ some k_ ≠ (.slice Ao56 y325.length co56 : Value).ownBlock ∧ k_ ≠ gb315 ∧ k_ ≠ gb316 ∧ k_ ≠ gb328) (.slice (some ad323) l0_0.length c0_0) l0_0) := ⟨by (with_reducible repeat (first | apply Kd.V_alloc | apply Kd.V_drewN | apply Kd.V_drew));exact Kd.V_mono (Kd.V_far (p := ⟨gb328,1,none⟩) (Kd.V_far (p := ⟨gb328,0,none⟩) (Kd.V_mono HO0_0.out (fun k_ hk => (⟨hk,hk.2⟩ : _ ∧ k_ ≠ gb328))) (fun _ hk => hk.2) (.int .i64 a3)) (fun _ hk => hk.2) (.slice Ao56 y325.length co56)) (fun _ hk => ⟨hk.1.1.1.1.1,⟨hk.1.1.1.2,⟨hk.1.1.2,⟨hk.1.1.1.1.2.1,⟨hk.1.1.1.1.2.2,hk.1.2⟩⟩⟩⟩⟩)⟩
        have n1 : Aside0 (Kd.R (Kd.int .i64) 3 ((w57.setCell ⟨gb328,0,none⟩ (.int .i64 a3)).setCell ⟨gb328,1,none⟩ (.slice Ao56 y325.length co56)) w.heap.size (fun k_ => (w.heap.size ≤ k_) ∧ some k_ ≠ (.slice Ao56 y325.length co56 : Value).ownBlock) (.slice (some ⟨go10,0,none⟩) y320.length co10) y324) := ⟨by (with_reducible repeat (first | apply rA_ | apply rN_ | apply rD_));exact Kd.R_mono (Kd.R_far (p := ⟨gb328,1,none⟩) (Kd.R_far (p := ⟨gb328,0,none⟩) (Kd.R_types HO322.out BK328.out (by decide)) (fun _ hk => hk.2) (.int .i64 a3)) (fun _ hk => hk.2) (.slice Ao56 y325.length co56)) (fun _ hk => ⟨hk.1.1,hk.1.2⟩)⟩
        have n2 : Aside0 (Kd.V k43 43 ((w57.setCell ⟨gb328,0,none⟩ (.int .i64 a3)).setCell ⟨gb328,1,none⟩ (.slice Ao56 y325.length co56)) w.heap.size (fun k_ => (P0_0_ k_ ∨ w.heap.size ≤ k_) ∧ some k_ ≠ (.slice (some ⟨go10,0,none⟩) y320.length co10 : Value).ownBlock ∧ some k_ ≠ (.slice Ao56 y325.length co56 : Value).ownBlock ∧ k_ ≠ gb315 ∧ k_ ≠ gb316 ∧ k_ ≠ gb328) (.slice A323_0 (rd_L4 l0_0 a2).length c323_0) (rd_L4 l0_0 a2)) := ⟨by (with_reducible repeat (first | apply Kd.V_alloc | apply Kd.V_drewN | apply Kd.V_drew));exact Kd.V_mono (Kd.V_far (p := ⟨gb328,1,none⟩) (Kd.V_far (p := ⟨gb328,0,none⟩) (Kd.V_mono HL323_0.out (fun k_ hk => (⟨hk,hk.2⟩ : _ ∧ k_ ≠ gb328))) (fun _ hk => hk.2) (.int .i64 a3)) (fun _ hk => hk.2) (.slice Ao56 y325.length co56)) (fun _ hk => ⟨hk.1.1.1.1.1,⟨hk.1.1.1.2,⟨hk.1.1.2,⟨hk.1.1.1.1.2.1,⟨hk.1.1.1.1.2.2,hk.1.2⟩⟩⟩⟩⟩)⟩
        have n3 : Aside0 (Kd.R (Kd.int .i64) 3 ((w57.setCell ⟨gb328,0,none⟩ (.int .i64 a3)).setCell ⟨gb328,1,none⟩ (.slice Ao56 y325.length co56)) w.heap.size (fun k_ => (w.heap.size ≤ k_) ∧ some k_ ≠ (.slice (some ⟨go10,0,none⟩) y320.length co10 : Value).ownBlock) (.slice Ao56 y325.length co56) y325) := ⟨by (with_reducible repeat (first | apply rA_ | apply rN_ | apply rD_));exact Kd.R_mono (Kd.R_far (p := ⟨gb328,1,none⟩) (Kd.R_far (p := ⟨gb328,0,none⟩) (Kd.R_types HO327.out BK328.out (by decide)) (fun _ hk => hk.2) (.int .i64 a3)) (fun _ hk => hk.2) (.slice Ao56 y325.length co56)) (fun _ hk => ⟨hk.1.1.1,hk.1.2⟩)⟩
        have n4 : Aside0 (((w57.setCell ⟨gb328,0,none⟩ (.int .i64 a3)).setCell ⟨gb328,1,none⟩ (.slice Ao56 y325.length co56)).heap[gb315]? = some (.cells #[.slice (some ad323) l0_0.length c0_0] 24 (0,0))) := ⟨by (with_reducible repeat (first | refine bN_ ?_ _ | refine bD_ ?_ | refine bA_ ?_ _));refine blk_far ?_ NB315_328.out _;(with_reducible repeat (first | refine bN_ ?_ _ | refine bD_ ?_ | refine bA_ ?_ _));refine blk_far ?_ NB315_328.out _;(with_reducible repeat (first | refine bN_ ?_ _ | refine bD_ ?_ | refine bA_ ?_ _));exact BK315.out⟩
        have n5 : Aside0 (((w57.setCell ⟨gb328,0,none⟩ (.int .i64 a3)).setCell ⟨gb328,1,none⟩ (.slice Ao56 y325.length co56)).heap[gb316]? = some (.cells #[.slice none 0 0] 24 (0,0))) := ⟨by (with_reducible repeat (first | refine bN_ ?_ _ | refine bD_ ?_ | refine bA_ ?_ _));refine blk_far ?_ NB316_328.out _;(with_reducible repeat (first | refine bN_ ?_ _ | refine bD_ ?_ | refine bA_ ?_ _));refine blk_far ?_ NB316_328.out _;(with_reducible repeat (first | refine bN_ ?_ _ | refine bD_ ?_ | refine bA_ ?_ _));exact BK316.out⟩
        have n6 : Aside0 (((w57.setCell ⟨gb328,0,none⟩ (.int .i64 a3)).setCell ⟨gb328,1,none⟩ (.slice Ao56 y325.length co56)).heap[gb328]? = some (.cells #[.int .i64 a3,.slice Ao56 y325.length co56] 43 (0,0))) := ⟨by (with_reducible repeat (first | refine bN_ ?_ _ | refine bD_ ?_ | refine bA_ ?_ _));refine blk_put (cs := #[.int .i64 a3,.slice none 0 0]) ?_ 1 _ rfl;refine blk_put (cs := #[.int .i64 0,.slice none 0 0]) ?_ 0 _ rfl;(with_reducible repeat (first | refine bN_ ?_ _ | refine bD_ ?_ | refine bA_ ?_ _));exact BK328.out⟩
        have n7 : Aside0 (Below w.heap.size w ((w57.setCell ⟨gb328,0,none⟩ (.int .i64 a3)).setCell ⟨gb328,1,none⟩ (.slice Ao56 y325.length co56))) := ⟨gW_ HB.out⟩
        (try clear HO0_0)
        (try clear HO322)
        (try clear HL323_0)
        (try clear HO327)
        (try clear BK315)
        (try clear BK316)
        (try clear BK328)
        (try clear HB)
        generalize ((w57.setCell ⟨gb328,0,none⟩ (.int .i64 a3)).setCell ⟨gb328,1,none⟩ (.slice Ao56 y325.length co56)) = w61 at n0 n1 n2 n3 n4 n5 n6 n7 ⊢
        have HO0_0 := n0
        have HO322 := n1
        have HL323_0 := n2
        have HO327 := n3
        have BK315 := n4
        have BK316 := n5
        have BK328 := n6
        have HB := n7
        clear n0 n1 n2 n3 n4 n5 n6 n7
        have n0 := aM_ (Kd.V_drew HO0_0.out)
        have n1 := aM_ (Kd.R_drew HO322.out)
        have n2 := aM_ (Kd.V_drew HL323_0.out)
        have n3 := aM_ (Kd.R_drew HO327.out)
        have n4 := aM_ (blk_drew BK315.out)
        have n5 := aM_ (blk_drew BK316.out)
        have n6 := aM_ (blk_drew BK328.out)
        have n7 := aM_ (below_drew1 HB.out)
        clear HO0_0
        clear HO322
        clear HL323_0
        clear HO327
        clear BK315
        clear BK316
        clear BK328
        clear HB
        have HO0_0 := n0
        have HO322 := n1
        have HL323_0 := n2
        have HO327 := n3
        have BK315 := n4
        have BK316 := n5
        have BK328 := n6
        have HB := n7
        clear n0 n1 n2 n3 n4 n5 n6 n7
        have p329 : 0 ≤ (a2 : Int) := of_decide_eq_true (by first | (with_reducible assumption) | assumption)
        have q329 : a2 < (y324.length : Int) := (by have h_ : (a2 : Int) < ((y320.length : Int) : Int) := of_decide_eq_true (by first | (with_reducible assumption) | assumption);first | (have e_ := (Kd.R_reads' HO322.out).1;omega) | simpa only [Ny324.out,List.length_set] using h_)
        have ql329 : ((a2 : Int) < ((y320.length : Int) : Int)) = True := eq_true (of_decide_eq_true (by first | (with_reducible assumption) | assumption))
        obtain ⟨ad329,e329,hx329_0⟩ := Kd.at_int (Kd.R_reads' HO322.out).2.2 a2 p329 q329
        obtain rfl : (⟨go10,0,none⟩ : Addr) = ad329 := (by injection e329)
        (first | simp only [add_plain] at hx329_0 | simp only [add_at] at hx329_0 | simp only [Addr.add,Nat.zero_add] at hx329_0 | skip)
        replace p329 := eq_true p329
        replace q329 := eq_true q329
        have p13 : 0 ≤ (a2 : Int) := of_decide_eq_true (by first | (with_reducible assumption) | assumption)
        have q13 : (a2 : Int) < ((y325.length : Int) : Int) := of_decide_eq_true (by first | (with_reducible assumption) | assumption)
        obtain ⟨go13,co13,eo13,gb13,gl13,cl13,HG13⟩ := Kd.R_form HO327.out (by omega)
        (first | cases eo13 | (injection eo13 with ea_ en_ ec_;(first | subst ea_ | (injection ea_ with ea_;subst ea_));subst ec_;clear en_))
        have GB13 := aM_ gb13
        have GG13 := aM_ HG13
        clear gb13 gl13 HG13
        obtain ⟨hx13_0,hf13_0⟩ := Kd.R_celln 0 HO327.out (a2 : Int) p13 q13
        replace p13 := eq_true p13
        replace q13 := eq_true q13
        have HP63 := Kd.R_putn HO327.out (a2 : Int) (rd y324 a2)
        rw [← Ny330.out] at HP63
        have HQ63 := aM_ HP63
        clear HP63
        refine start_ (n := 9) (S := fun w' => w'.cell? ⟨gb328,0,none⟩ = some (.int .i64 a3) ∧ w'.cell? ⟨gb328,1,none⟩ = some (.slice (some ⟨go13,0,none⟩) y325.length co56) ∧ w'.cell? ⟨go10,(a2).toNat,none⟩ = some (.int .i64 (rd y324 a2))) (ds := [8]) #[false,false,false,false,false,false,false,false,false] (by kernel_rfl) rfl rfl ⟨(blk_cell BK328.out 0).trans rfl,(blk_cell BK328.out 1).trans rfl,hx329_0⟩ (fun hHeld => ?_);refine with_tabW spec_l6Store.tab4 spec_l6Store.bits4 (fun HT_ HW_ => ?_)
        generalize w61.drew = w62 at HO0_0 HO322 HL323_0 HO327 BK315 BK316 BK328 HB GG13 HQ63 hf13_0 hx13_0 hx329_0 hHeld ⊢
        refine pU_ 0 (some 29) (mk_ 9 1) ?_
        refine pU_ 2 (some 31) (mk_ 9 5) ?_
        refine pU_ 3 (some 32) (mk_ 9 13) ?_
        refine pU_ 4 (some 33) (mk_ 9 29) ?_
        refine pU_ 5 (some 34) (mk_ 9 61) ?_
        refine tK3_ 1 (some 30) (mk_ 9 63) ?_
        refine tK3_ 6 (some 35) (mk_ 9 127) ?_
        refine pU_ 7 (some 36) (mk_ 9 255) ?_
        refine last_ (i := 8) (N := none) #[true,true,true,true,true,true,true,true,true] rfl rfl (one_of HT_.out (by kernel_rfl)) (by decide) (fun K hK => ?_)
        refine skip_ (w1 := ?_) (by rfl) rfl ?_ ?_
        rotate_left
        ·go_simp
         rfl
        refine hK.out _ _ ?_
        clear hK K
        refine done_ (done_of HT_.out (by kernel_rfl)) ?_
        have n0 : Aside0 (Kd.V (Kd.slice 43 k43) 44 (w62.setCell ⟨go13,(a2 : Int).toNat,none⟩ (.int .i64 (rd y324 a2))) w.heap.size (fun k_ => (P0_0_ k_ ∨ w.heap.size ≤ k_) ∧ some k_ ≠ (.slice (some ⟨go10,0,none⟩) y320.length co10 : Value).ownBlock ∧ some k_ ≠ (.slice (some ⟨go13,0,none⟩) y325.length co56 : Value).ownBlock ∧ k_ ≠ gb315 ∧ k_ ≠ gb316 ∧ k_ ≠ gb328) (.slice (some ad323) l0_0.length c0_0) l0_0) := ⟨by (with_reducible repeat (first | apply Kd.V_alloc | apply Kd.V_drewN | apply Kd.V_drew));exact Kd.V_mono (Kd.V_far (p := ⟨go13,(a2 : Int).toNat,none⟩) (Kd.V_mono HO0_0.out (fun k_ hk => (⟨hk,fun e_ => hk.2.2.1 (by rw [e_];rfl)⟩ : _ ∧ k_ ≠ go13))) (fun _ hk => hk.2) (.int .i64 (rd y324 a2))) (fun _ hk => ⟨hk.1.1,⟨hk.1.2.1,⟨hk.1.2.2.1,⟨hk.1.2.2.2.1,⟨hk.1.2.2.2.2.1,hk.1.2.2.2.2.2⟩⟩⟩⟩⟩)⟩
        have n1 : Aside0 (Kd.R (Kd.int .i64) 3 (w62.setCell ⟨go13,(a2 : Int).toNat,none⟩ (.int .i64 (rd y324 a2))) w.heap.size (fun k_ => (w.heap.size ≤ k_) ∧ some k_ ≠ (.slice (some ⟨go13,0,none⟩) y325.length co56 : Value).ownBlock) (.slice (some ⟨go10,0,none⟩) y320.length co10) y324) := ⟨by (with_reducible repeat (first | apply rA_ | apply rN_ | apply rD_));exact Kd.R_mono (Kd.R_far (p := ⟨go13,(a2 : Int).toNat,none⟩) (Kd.R_mono HO322.out (fun k_ hk => (⟨hk,fun e_ => hk.2 (by rw [e_];rfl)⟩ : _ ∧ k_ ≠ go13))) (fun _ hk => hk.2) (.int .i64 (rd y324 a2))) (fun _ hk => ⟨hk.1.1,hk.1.2⟩)⟩
        have n2 : Aside0 (Kd.V k43 43 (w62.setCell ⟨go13,(a2 : Int).toNat,none⟩ (.int .i64 (rd y324 a2))) w.heap.size (fun k_ => (P0_0_ k_ ∨ w.heap.size ≤ k_) ∧ some k_ ≠ (.slice (some ⟨go10,0,none⟩) y320.length co10 : Value).ownBlock ∧ some k_ ≠ (.slice (some ⟨go13,0,none⟩) y325.length co56 : Value).ownBlock ∧ k_ ≠ gb315 ∧ k_ ≠ gb316 ∧ k_ ≠ gb328) (.slice A323_0 (rd_L4 l0_0 a2).length c323_0) (rd_L4 l0_0 a2)) := ⟨by (with_reducible repeat (first | apply Kd.V_alloc | apply Kd.V_drewN | apply Kd.V_drew));exact Kd.V_mono (Kd.V_far (p := ⟨go13,(a2 : Int).toNat,none⟩) (Kd.V_mono HL323_0.out (fun k_ hk => (⟨hk,fun e_ => hk.2.2.1 (by rw [e_];rfl)⟩ : _ ∧ k_ ≠ go13))) (fun _ hk => hk.2) (.int .i64 (rd y324 a2))) (fun _ hk => ⟨hk.1.1,⟨hk.1.2.1,⟨hk.1.2.2.1,⟨hk.1.2.2.2.1,⟨hk.1.2.2.2.2.1,hk.1.2.2.2.2.2⟩⟩⟩⟩⟩)⟩
        have n3 : Aside0 (Kd.R (Kd.int .i64) 3 (w62.setCell ⟨go13,(a2 : Int).toNat,none⟩ (.int .i64 (rd y324 a2))) w.heap.size (fun k_ => (w.heap.size ≤ k_) ∧ some k_ ≠ (.slice (some ⟨go10,0,none⟩) y320.length co10 : Value).ownBlock) (.slice (some ⟨go13,0,none⟩) y325.length co56) y330) := ⟨by (with_reducible repeat (first | apply rA_ | apply rN_ | apply rD_));exact HQ63.out⟩
        have n4 : Aside0 ((w62.setCell ⟨go13,(a2 : Int).toNat,none⟩ (.int .i64 (rd y324 a2))).heap[gb315]? = some (.cells #[.slice (some ad323) l0_0.length c0_0] 24 (0,0))) := ⟨by (with_reducible repeat (first | refine bN_ ?_ _ | refine bD_ ?_ | refine bA_ ?_ _));refine blk_far ?_ (by have h_ := Kd.R_ne HO327.out BK315.out (by decide);intro e_;exact h_ (by rw [e_];rfl)) _;(with_reducible repeat (first | refine bN_ ?_ _ | refine bD_ ?_ | refine bA_ ?_ _));exact BK315.out⟩
        have n5 : Aside0 ((w62.setCell ⟨go13,(a2 : Int).toNat,none⟩ (.int .i64 (rd y324 a2))).heap[gb316]? = some (.cells #[.slice none 0 0] 24 (0,0))) := ⟨by (with_reducible repeat (first | refine bN_ ?_ _ | refine bD_ ?_ | refine bA_ ?_ _));refine blk_far ?_ (by have h_ := Kd.R_ne HO327.out BK316.out (by decide);intro e_;exact h_ (by rw [e_];rfl)) _;(with_reducible repeat (first | refine bN_ ?_ _ | refine bD_ ?_ | refine bA_ ?_ _));exact BK316.out⟩
        have n6 : Aside0 ((w62.setCell ⟨go13,(a2 : Int).toNat,none⟩ (.int .i64 (rd y324 a2))).heap[gb328]? = some (.cells #[.int .i64 a3,.slice (some ⟨go13,0,none⟩) y325.length co56] 43 (0,0))) := ⟨by (with_reducible repeat (first | refine bN_ ?_ _ | refine bD_ ?_ | refine bA_ ?_ _));refine blk_far ?_ (by have h_ := Kd.R_ne HO327.out BK328.out (by decide);intro e_;exact h_ (by rw [e_];rfl)) _;(with_reducible repeat (first | refine bN_ ?_ _ | refine bD_ ?_ | refine bA_ ?_ _));exact BK328.out⟩
        have n7 : Aside0 (Below w.heap.size w (w62.setCell ⟨go13,(a2 : Int).toNat,none⟩ (.int .i64 (rd y324 a2)))) := ⟨by repeat (first | (with_reducible first | exact HB.out | apply hA_ | apply hN_ | apply hD_ | refine below_set ?_ GB13.out | refine below_set ?_ GE315.out | refine below_set ?_ GE316.out | refine below_set ?_ GE328.out) | exact HB.out)⟩
        (try clear HO0_0)
        (try clear HO322)
        (try clear HL323_0)
        (try clear HO327)
        (try clear BK315)
        (try clear BK316)
        (try clear BK328)
        (try clear HB)
        generalize (w62.setCell ⟨go13,(a2 : Int).toNat,none⟩ (.int .i64 (rd y324 a2))) = w64 at n0 n1 n2 n3 n4 n5 n6 n7 ⊢
        have HO0_0 := n0
        have HO322 := n1
        have HL323_0 := n2
        have HO327 := n3
        have BK315 := n4
        have BK316 := n5
        have BK328 := n6
        have HB := n7
        clear n0 n1 n2 n3 n4 n5 n6 n7
        try go_wp2
        have n0 := aM_ (Kd.V_drew HO0_0.out)
        have n1 := aM_ (Kd.R_drew HO322.out)
        have n2 := aM_ (Kd.V_drew HL323_0.out)
        have n3 := aM_ (Kd.R_drew HO327.out)
        have n4 := aM_ (blk_drew BK315.out)
        have n5 := aM_ (blk_drew BK316.out)
        have n6 := aM_ (blk_drew BK328.out)
        have n7 := aM_ (below_drew1 HB.out)
        clear HO0_0
        clear HO322
        clear HL323_0
        clear HO327
        clear BK315
        clear BK316
        clear BK328
        clear HB
        have HO0_0 := n0
        have HO322 := n1
        have HL323_0 := n2
        have HO327 := n3
        have BK315 := n4
        have BK316 := n5
        have BK328 := n6
        have HB := n7
        clear n0 n1 n2 n3 n4 n5 n6 n7
        have hbs_ := below_size HB.out
        have HSm := aM_ (Kd.S_old hS.out HB.out)
        have hp_ : 0 ≤ a2 := of_decide_eq_true c7b0
        have hq_ : a2 < (l0_0.length : Int) := of_decide_eq_true c8b0
        obtain ⟨gM,rfl⟩ := Kd.R_head (Kd.S_R HSm.out)
        obtain ⟨oki,Ae,ce,hSe,hcM,hoki,⟨cellsM,hBM⟩,hback⟩ := S_push HSm.out a2 hp_ hq_
        have HSe := aM_ hSe
        have BKM := aM_ hBM
        have hkM := aM_ ((blk_cell hBM (a2).toNat).symm.trans hcM)
        have HBK := aM_ hback
        have HOK := aM_ hoki
        have HGM : Aside0 (gM < w.heap.size) := ⟨((Kd.S_R HSm.out).1 gM rfl).2⟩
        have HRW : Aside0 (∀ k,(Value.slice Ae (rd_L4 l0_0 a2).length ce).ownBlock = some k → P0_0_ k ∧ k < w.heap.size) := ⟨fun k hk => (hoki k ((Kd.S_R hSe).1 k hk)).1⟩
        clear hSe hBM hcM hback hoki hp_ hq_
        refine start_ (n := 13) (S := fun w' => w'.cell? ⟨gb315,0,none⟩ = some (.slice (some ⟨gM,0,none⟩) l0_0.length c0_0) ∧ w'.cell? ⟨gM,(a2).toNat,none⟩ = some (.slice Ae (rd_L4 l0_0 a2).length ce) ∧ w'.cell? ⟨gb328,0,none⟩ = some (.int .i64 a3) ∧ w'.cell? ⟨gb328,1,none⟩ = some (.slice (some ⟨go13,0,none⟩) y325.length co56)) (ds := [12]) #[false,false,false,false,false,false,false,false,false,false,false,false,false] (by kernel_rfl) rfl rfl ⟨(blk_cell (BK315.out) 0).trans rfl,(blk_cell (BKM.out) _).trans hkM.out,(blk_cell (BK328.out) 0).trans rfl,(blk_cell (BK328.out) 1).trans rfl⟩ (fun hHeld => ?_)
        generalize w64.drew = w65 at HO0_0 HO322 HL323_0 HO327 BK315 BK316 BK328 HB HSm HSe BKM HBK hbs_ hHeld ⊢
        refine pU_ 0 (some 42) (mk_ 13 1) ?_
        refine pU_ 2 (some 44) (mk_ 13 5) ?_
        refine pU_ 3 (some 45) (mk_ 13 13) ?_
        refine pU_ 5 (some 47) (mk_ 13 45) ?_
        refine tK4_ 1 (some 43) (mk_ 13 47) ?_
        refine tK4_ 4 (some 46) (mk_ 13 63) ?_
        refine pU_ 6 (some 48) (mk_ 13 127) ?_
        refine tK4_ 7 (some 49) (mk_ 13 255) ?_
        refine tK4_ 8 (some 50) (mk_ 13 511) ?_
        refine oN_ 9 (some 51) (mk_ 13 1023) (fun K hK => ?_)
        refine value_ (w1 := ?_) (v := ?_) (by rfl) rfl ?_ ?_
        rotate_left 2
        ·go_simp
         constructor
         ·rfl
         ·rfl
        refine hK.out _ _ ⟨(blk_cell (blk_alloc BK315.out _) 0).trans rfl,(blk_cell (blk_alloc BKM.out _) _).trans hkM.out,(blk_cell (blk_alloc BK328.out _) 0).trans rfl,(blk_cell (blk_alloc BK328.out _) 1).trans rfl⟩ (fun hHeld => ?_)
        clear hK K
        refine norm_ (a' := ?_) ?_ ?_
        rotate_left
        ·show Act.put _ (some 51) _ = _
         simp only [pt_,pn_,sI_,s0_,s1_,i64_w,i32_w]
         rfl
        refine oN_ 10 (some 52) (mk_ 13 2047) (fun K hK => ?_)
        have hT1 := HO327.out.1
        have hT2 : ∀ k,(.slice (some ⟨go13,0,none⟩) y325.length co56 : Value).ownBlock = some k → w.heap.size ≤ k := Kd.R_base HO327.out
        refine Kd.S_append_step k43 (w0 := w) b0 (by rfl) (.tmp 49) (.tmp 51) 44 43 (.agg #[(.int .i64 0),(.slice none 0 0)]) 32 rfl Try.underlying44 info43 rfl (by decide) (by omega) (.slice Ae (rd_L4 l0_0 a2).length ce) (rd_L4 l0_0 a2) (⟨a3,y330⟩ : S43) [.int .i64 a3,.slice (some ⟨go13,0,none⟩) y325.length co56] (fun k_ => oki k_ ∨ (w.heap.size ≤ k_ ∧ some k_ ≠ (.slice (some ⟨go10,0,none⟩) y320.length co10 : Value).ownBlock)) (fun k_ => some k_ = (.slice (some ⟨go13,0,none⟩) y325.length co56 : Value).ownBlock) rfl rfl ?aP ?aK ?aF ?aO ?aB ?aS ?aL ?_
        (case aP => exact k43_mkM _ _ _ (⟨a3,y330⟩ : S43) (Kd.R_mono (Kd.R_tight rfl (Kd.R_lower HO327.out hb0w.out)) (fun _ h_ => h_)))
        (case aK => exact fun k hk => ⟨.inr ⟨hT2 k hk.symm,by have h1 := hT1 k hk.symm;first | exact h1.2.1 | exact h1.2 | exact h1.1 | exact h1.1.2 | exact h1⟩,fun e => absurd (hT2 k hk.symm) (Nat.not_le.2 (HRW.out k e.symm).2)⟩)
        (case aF => exact fun k hk => .inr ⟨Nat.le_trans hbs_ hk,fun e => Nat.not_le.2 (Kd.R_lt HO322.out k e.symm) hk⟩)
        (case aO => exact Kd.S_mono HSe.out (fun k hk => ⟨.inl hk,fun e => absurd (hT2 k e.symm) (Nat.not_le.2 (HOK.out k hk).1.2)⟩))
        (case aB => exact HB.out.mono hb0w.out)
        (case aS => exact Nat.le_trans hb0w.out hbs_)
        (case aL => have := LMcP.out;omega)
        intro vP wP ho hb hg hat
        rw [← NyP.out] at ho
        have hnb : ∀ {g t : Nat} {cs : Array Value},w65.heap[g]? = some (.cells cs t (0,0)) → t ≠ 43 → some g ≠ (Value.slice Ae (rd_L4 l0_0 a2).length ce).ownBlock := fun hb_ ht => Kd.S_ne HSe.out hb_ (Ne.symm ht)
        have HKP : Aside0 (Kept w wP P0_0_) := ⟨Kept.of_grown hg (Kept.of_below HB.out P0_0_) (fun k e => .inl (HRW.out k e).1)⟩
        have BK315n := aM_ (blk_grown BK315.out hg (hnb BK315.out (by decide)))
        have BK316n := aM_ (blk_grown BK316.out hg (hnb BK316.out (by decide)))
        have BKMn := aM_ (blk_grown BKM.out hg (hnb BKM.out (by decide)))
        have BK328n := aM_ (blk_grown BK328.out hg (fun e => absurd GE328.out (Nat.not_le.2 (HRW.out _ e.symm).2)))
        have HO322n := aM_ (Kd.R_mono (Kd.R_grown (Kd.R_bound HO322.out) hg (fun k hk e => absurd hk.2.1 (Nat.not_le.2 (HRW.out k e.symm).2))) (fun _ hk => hk.1))
        clear hT1 hT2 hnb
        clear BK315 BK316 BKM BK328 HO322 HB HSm
        have BK315 := BK315n
        have BK316 := BK316n
        have BKM := BKMn
        have BK328 := BK328n
        have HO322 := HO322n
        clear BK315n BK316n BKMn BK328n HO322n
        obtain ⟨An,cn,rfl⟩ := Kd.S_slice ho
        have HP := aM_ ho
        have HBP : Aside0 (Below b0 w wP) := ⟨hb⟩
        have HG := aM_ hg
        clear ho hb hg hat
        refine hK.out _ _ ⟨(blk_cell (BK315.out) 0).trans rfl,(blk_cell (BKM.out) _).trans hkM.out,(blk_cell (BK328.out) 0).trans rfl,(blk_cell (BK328.out) 1).trans rfl⟩ (fun hHeld => ?_)
        clear hK K
        refine norm_ (a' := ?_) ?_ ?_
        rotate_left
        ·show Act.put _ (some 52) _ = _
         simp only [pt_,pn_,sI_,s0_,s1_,i64_w,i32_w]
         rfl
        refine pU_ 11 (some 53) (mk_ 13 4095) ?_
        refine last_ (i := 12) (N := none) #[true,true,true,true,true,true,true,true,true,true,true,true,true] rfl rfl (by kernel_rfl) (by decide) (fun K hK => ?_)
        have hsM : wP.cell? ⟨gM,(a2).toNat,none⟩ = some (.slice Ae (rd_L4 l0_0 a2).length ce) := (blk_cell BKM.out _).trans hkM.out
        have hfM := blk_frozen BKM.out (a2).toNat
        refine skip_ (w1 := ?_) (by rfl) rfl ?_ ?_
        rotate_left
        ·go_simp
         rfl
        refine hK.out _ _ ?_
        clear hK K
        refine done_ (by kernel_rfl) ?_
        have HSn := aM_ (HBK.out wP (.slice An yP.length cn) yP (fun k_ => w.heap.size ≤ k_ ∧ some k_ ≠ (.slice (some ⟨go10,0,none⟩) y320.length co10 : Value).ownBlock) HG.out HP.out (fun k hk => ⟨fun h => Nat.not_le.2 h.2 hk.1,fun e => absurd (e ▸ hk.1) (Nat.not_le.2 HGM.out)⟩))
        replace BK315 := aM_ (blk_far (p := ⟨gM,(a2).toNat,none⟩) BK315.out (by intro e_;have h_ := BK315.out;rw [show _ = gM from e_,BKM.out] at h_;simp at h_) (.slice An yP.length cn))
        replace BK316 := aM_ (blk_far (p := ⟨gM,(a2).toNat,none⟩) BK316.out (by intro e_;have h_ := BK316.out;rw [show _ = gM from e_,BKM.out] at h_;simp at h_) (.slice An yP.length cn))
        replace HO322 := aM_ (Kd.R_mono (Kd.R_far (p := ⟨gM,(a2).toNat,none⟩) (Kd.R_bound HO322.out) (fun k hk e => absurd hk.2.1 (Nat.not_le.2 (show k < w.heap.size from (show k = gM from e) ▸ HGM.out))) (.slice An yP.length cn)) (fun _ hk => hk.1))
        replace HKP := aM_ (HKP.out.setCell (p := ⟨gM,(a2).toNat,none⟩) (.inl ((Kd.S_R hS.out).1 gM rfl)) (.slice An yP.length cn))
        replace HBP : Aside0 (Below b0 w (wP.setCell ⟨gM,(a2).toNat,none⟩ (.slice An yP.length cn))) := ⟨HBP.out.setCell (Kd.S_base hS.out gM rfl) _⟩
        clear hsM hfM HG HP HBK HSe BKM hkM HOK HRW hHeld
        generalize (wP.setCell ⟨gM,(a2).toNat,none⟩ (.slice An yP.length cn)) = wQ at HSn HKP HBP BK315 BK316 HO322 ⊢
        have hcz66_0 : wQ.cell? ⟨gb315,0,none⟩ = some (.slice (some ⟨gM,0,none⟩) l0_0.length c0_0) := (blk_cell BK315.out 0).trans rfl
        have hfz66_0 := blk_frozen BK315.out 0
        have hcz67_0 : wQ.cell? ⟨gb316,0,none⟩ = some (.slice none 0 0) := (blk_cell BK316.out 0).trans rfl
        have hfz67_0 := blk_frozen BK316.out 0
        try go_wp2
        refine bodyPost_ret (results_ct rfl _ _ gb316 24 #[.slice (some ⟨gM,0,none⟩) l0_0.length c0_0] (0,0) _ rfl (by (with_reducible repeat (first | refine bN_ ?_ _ | refine bD_ ?_ | refine bA_ ?_ _));refine blk_put (cs := #[.slice none 0 0]) ?_ 0 _ rfl;exact rW_ BK316.out) Try.underlying24 rfl (by kernel_rfl)) rfl ?_
        exact ⟨_,_,by first | rfl | (simp [*];done),Kd.S_mono (Kd.S_set HSn.out BK316.out (by decide) 0 _) (fun k hk => hk.elim (fun h => ⟨.inl h.1,fun e => absurd (Kd.R_base HO322.out k e.symm) (Nat.not_le.2 h.2)⟩) (fun h => ⟨.inr h.1,h.2⟩)),Kd.R_mono (Kd.R_far (p := ⟨gb316,0,none⟩) (Kd.R_types HO322.out BK316.out (by decide)) (fun _ hk => hk.2) _) (fun _ hk => (by first | exact hk.1.1 | exact hk.1)),HBP.out.setCell (Nat.le_trans hb0w.out GE316.out) _,HKP.out.setCell (p := ⟨gb316,0,none⟩) (.inr GE316.out) _⟩
      ·rw [if_neg c12] at H
       exact absurd H (by simp)
     ·rw [if_neg c11] at H
      exact absurd H (by simp)
    ·rw [if_neg c9] at H
     exact absurd H (by simp)
   ·rw [if_neg c8] at H
    exact absurd H (by simp)
  ·rw [if_neg c7] at H
   exact absurd H (by simp)
 ·rw [if_neg c6] at H
  exact absurd H (by simp)
def spec_Store.j0 : Nat → List Int → Int → Int → Bool → Bool → List (List (S43)) → Option ((List (List (S43))) × List Int)
  | 0,_,_,_,_,_,_ => none
  | k + 1,x1,x2,x3,x4,x27,x338000 => if x27 = true then ((spec_l6Copy.f k x338000).bind fun t341 => ((some (([] : List Int) : List Int)).bind fun y344 => (if y344.length + x1.length < 17592186044416 then (some (t341,(y344 ++ x1))) else (none)))) else ((spec_l6Copy.f k x338000).bind fun t350 => ((spec_l6Store.f t350 x1 x2 x3 x4).bind fun bt353 => (some (bt353.1,bt353.2))))
def spec_Store.f (k : Nat) (l0_0 : List (List (S43))) (l1 : List Int) (a2 : Int) (a3 : Int) (a4 : Bool) : Option ((List (List (S43))) × List Int) := (spec_l6Right.f k l0_0 l1 a2).bind fun t339 => (if t339 = true then (if 0 ≤ a2 then (if a2 < (l0_0.length : Int) then (spec_Store.j0 k l1 a2 a3 a4 (((rd_L4 l0_0 a2).length : Int) == 4000) l0_0) else (none)) else (none)) else (spec_Store.j0 k l1 a2 a3 a4 true l0_0))
set_option maxHeartbeats 8000000 in
set_option maxRecDepth 100000 in
theorem spec_Store.callsS (k : Nat) (A0_0 : Option Addr) (c0_0 : Nat) (l0_0 : List (List (S43))) (A1 : Option Addr) (c1 : Nat) (l1 : List Int) (a2 : Int) (a3 : Int) (a4 : Bool) (r1 : List (List (S43))) (r2 : List Int) (w : World) (hr0_0 : Kd.C (Kd.slice 43 k43) w A0_0 l0_0.length l0_0) (hc0_0 : l0_0.length ≤ c0_0) (hr1 : Kd.C (Kd.int .i64) w A1 l1.length l1) (hc1 : l1.length ≤ c1) (h : spec_Store.f k l0_0 l1 a2 a3 a4 = some (r1,r2)) :
  Calls Try.prog 43 #[.agg #[.slice A0_0 l0_0.length c0_0],.slice A1 l1.length c1,.int .i64 a2,.int .i64 a3,.bool a4] w fun e w' => ∃ v0_ v1_ : Value,e = .returned (.tuple #[.agg #[v0_],v1_]) ∧ Kd.S (sslice 43 k43) 44 w' w.heap.size (fun k_ => (w.heap.size ≤ k_) ∧ some k_ ≠ (v1_ : Value).ownBlock) v0_ r1 ∧ Kd.R (Kd.int .i64) 3 w' w.heap.size (fun k_ => (w.heap.size ≤ k_)) v1_ r2 ∧ Below w.heap.size w w' := by
 have hu24 := Try.underlying24
 have HR0_0 := Aside0.mk hr0_0
 have HC0_0 := Aside0.mk hc0_0
 clear hr0_0 hc0_0
 have HR1 := Aside0.mk hr1
 have HC1 := Aside0.mk hc1
 clear hr1 hc1
 have HB := Aside0.mk (Below.refl w.heap.size w)
 have H : ((spec_l6Right.f k l0_0 l1 a2).bind fun t339 => (if t339 = true then (if 0 ≤ a2 then (if a2 < (l0_0.length : Int) then (spec_Store.j0 k l1 a2 a3 a4 (((rd_L4 l0_0 a2).length : Int) == 4000) l0_0) else (none)) else (none)) else (spec_Store.j0 k l1 a2 a3 a4 true l0_0))) = some (r1,r2) := h
 clear h
 have HC6 := Aside0.mk H
 clear H
 go_enter Try.func43,Try.ntmps43
 go_upto_region 1 with (first | ((with_reducible refine gate_dst (N := 5) rfl ?_);(try (refine gate_guard (by rfl) ?_;dsimp only));refine bX_ 5 (cs := #[.slice A0_0 l0_0.length c0_0]) (t := 24) ?_;intro gb337 hg w7 hbox hb;have n0_ := Aside0.mk (sT_ HB.out hb);have n1_ := Aside0.mk (hbox);have n2_ := Aside0.mk (sZ_ hg HB.out);have n3_ := Aside0.mk (sZ_ hg HB.out);clear HB;have HB := n0_;have BK337 := n1_;have GW337 := n2_;have GE337 := n3_;clear n0_ n1_ n2_ n3_;clear hb hbox hg) | ((with_reducible refine gate_dst (N := 10) rfl ?_);(try (refine gate_guard (by rfl) ?_;dsimp only));refine bX_ 10 (cs := #[.slice none 0 0]) (t := 24) ?_;intro gb338 hg w8 hbox hb;have n0_ := Aside0.mk (nB_ BK337.out hb);have n1_ := Aside0.mk (sT_ HB.out hb);have n2_ := Aside0.mk (hbox);have n3_ := Aside0.mk (sZ_ hg HB.out);have n4_ := Aside0.mk (sZ_ hg HB.out);have n5_ := Aside0.mk (nL_ hg BK337.out);have n6_ := Aside0.mk (nG_ hg BK337.out);clear BK337;clear HB;have BK337 := n0_;have HB := n1_;have BK338 := n2_;have GW338 := n3_;have GE338 := n4_;have NB337_338 := n5_;have NB338_337 := n6_;clear n0_ n1_ n2_ n3_ n4_ n5_ n6_;clear hb hbox hg))
 (try simp only [Act.put,List.setIfInBounds_toArray,List.set_cons_zero,List.set_cons_succ])
 go_cut [27] (fun v27 wc => ∃ (kq : Nat) (x27_5 : Bool),v27 = .bool x27_5 ∧ Aside0 (spec_Store.j0 kq l1 a2 a3 a4 x27_5 l0_0 = some (r1,r2)) ∧ Aside0 (kq ≤ k) ∧ Aside0 (wc.heap[gb337]? = some (.cells #[(.slice A0_0 l0_0.length c0_0)] 24 (0,0))) ∧ Aside0 (wc.heap[gb338]? = some (.cells #[(.slice none 0 0)] 24 (0,0))) ∧ Aside0 (Below w.heap.size w wc))
 case first =>
  have H := HC6.out
  clear HC6
  replace H := Option.bind_eq_some_iff.mp H
  obtain ⟨t339,A90,H⟩ := H
  replace H : (if t339 = true then (if 0 ≤ a2 then (if a2 < (l0_0.length : Int) then (spec_Store.j0 k l1 a2 a3 a4 (((rd_L4 l0_0 a2).length : Int) == 4000) l0_0) else (none)) else (none)) else (spec_Store.j0 k l1 a2 a3 a4 true l0_0)) = some (r1,r2) := H
  have A9 := Aside0.mk A90
  clear A90
  by_cases c10 : t339 = true
  ·subst c10
   have H1 : (if 0 ≤ a2 then (if a2 < (l0_0.length : Int) then (spec_Store.j0 k l1 a2 a3 a4 (((rd_L4 l0_0 a2).length : Int) == 4000) l0_0) else (none)) else (none)) = some (r1,r2) := by rw [if_pos rfl] at H;exact H
   clear H
   have H := H1
   clear H1
   by_cases c11 : 0 ≤ a2
   ·rw [if_pos c11] at H
    have c11b0 : decide (0 ≤ a2) = true := decide_eq_true c11
    clear c11
    (first | rw [c11b0] | (simp only [i64_w,i32_w];rw [c11b0]) | skip)
    by_cases c12 : a2 < (l0_0.length : Int)
    ·rw [if_pos c12] at H
     have c12b0 : decide (a2 < (l0_0.length : Int)) = true := decide_eq_true c12
     clear c12
     have H' := Aside0.mk H
     clear H
     have hnb13 := NB337_338.out
     have hnc13 := NB338_337.out
     have hcz14_0 : w8.cell? ⟨gb337,0,none⟩ = some (.slice A0_0 l0_0.length c0_0) := (blk_cell BK337.out 0).trans rfl
     have hfz14_0 := blk_frozen BK337.out 0
     go_wp2_with (first | ((with_reducible refine gate_callee (f := 61) rfl ?_);refine gL_ (some 17) Try.func61 #[.agg #[.slice A0_0 l0_0.length c0_0],.slice A1 l1.length c1,.int .i64 a2] ?_;(with_reducible refine (spec_l6Right.calls k _ _ l0_0 _ _ l1 a2 true _ ?side1 ?side2 ?side3 ?side4 A9.out).mono ?_);(case side1 => exact cS_ (Kd.C_below HR0_0.out HB.out));(case side2 => exact HC0_0.out);(case side3 => exact cS_ (Kd.C_below HR1.out HB.out));(case side4 => exact HC1.out);rintro e w15 ⟨rfl,hb⟩;refine ⟨_,rfl,?_⟩;have n0_ := Aside0.mk (nB_ BK337.out hb);have n1_ := Aside0.mk (nB_ BK338.out hb);have n2_ := Aside0.mk (sT_ HB.out hb);clear BK337;clear BK338;clear HB;have BK337 := n0_;have BK338 := n1_;have HB := n2_;clear n0_ n1_ n2_;(try clear hb);(try clear hb2);(try clear hk);(try clear hi);have hcz16_0 : w15.cell? ⟨gb337,0,none⟩ = some (.slice A0_0 l0_0.length c0_0) := (blk_cell BK337.out 0).trans rfl;have hfz16_0 := blk_frozen BK337.out 0;have p340 : 0 ≤ (a2 : Int) := of_decide_eq_true (by first | (with_reducible assumption) | assumption);have q340 : a2 < (l0_0.length : Int) := of_decide_eq_true (by first | (with_reducible assumption) | assumption);obtain ⟨ad340,A340_0,c340_0,e340,hx340_0,hl340_0,hi340_0⟩ := at_L4 HR0_0.out a2 p340 q340;cases e340;replace hx340_0 := cB_ HB.out hx340_0;have HR340_0 := Aside0.mk hi340_0;have HC340_0 := Aside0.mk hl340_0;clear hi340_0 hl340_0;replace p340 := eq_true p340;replace q340 := eq_true q340))
     go_meet
     case rel => exact ⟨_,((((rd_L4 l0_0 a2).length : Int) == 4000)),(by first | rfl | (simp;done) | (simp [*];done)),H',⟨by first | omega | exact Nat.le_refl _⟩,⟨rW_ BK337.out⟩,⟨rW_ BK338.out⟩,⟨gW_ HB.out⟩⟩
    ·rw [if_neg c12] at H
     exact absurd H (by simp)
   ·rw [if_neg c11] at H
    exact absurd H (by simp)
  ·replace c10 := Bool.eq_false_iff.mpr c10
   subst c10
   have H1 : (spec_Store.j0 k l1 a2 a3 a4 true l0_0) = some (r1,r2) := by rw [if_neg (show ¬ (false = true) by decide)] at H;exact H
   clear H
   have H := H1
   clear H1
   have H' := Aside0.mk H
   clear H
   have hnb17 := NB337_338.out
   have hnc17 := NB338_337.out
   have hcz18_0 : w8.cell? ⟨gb337,0,none⟩ = some (.slice A0_0 l0_0.length c0_0) := (blk_cell BK337.out 0).trans rfl
   have hfz18_0 := blk_frozen BK337.out 0
   go_wp2_with (first | ((with_reducible refine gate_callee (f := 61) rfl ?_);refine gL_ (some 17) Try.func61 #[.agg #[.slice A0_0 l0_0.length c0_0],.slice A1 l1.length c1,.int .i64 a2] ?_;(with_reducible refine (spec_l6Right.calls k _ _ l0_0 _ _ l1 a2 false _ ?side1 ?side2 ?side3 ?side4 A9.out).mono ?_);(case side1 => exact cS_ (Kd.C_below HR0_0.out HB.out));(case side2 => exact HC0_0.out);(case side3 => exact cS_ (Kd.C_below HR1.out HB.out));(case side4 => exact HC1.out);rintro e w19 ⟨rfl,hb⟩;refine ⟨_,rfl,?_⟩;have n0_ := Aside0.mk (nB_ BK337.out hb);have n1_ := Aside0.mk (nB_ BK338.out hb);have n2_ := Aside0.mk (sT_ HB.out hb);clear BK337;clear BK338;clear HB;have BK337 := n0_;have BK338 := n1_;have HB := n2_;clear n0_ n1_ n2_;(try clear hb);(try clear hb2);(try clear hk);(try clear hi)))
   go_meet
   case rel => exact ⟨_,(true),(by first | rfl | (simp;done) | (simp [*];done)),H',⟨by first | omega | exact Nat.le_refl _⟩,⟨rW_ BK337.out⟩,⟨rW_ BK338.out⟩,⟨gW_ HB.out⟩⟩
 case rest =>
  clear HC6
  try clear c1
  try clear p2
  try clear c3
  try clear p3
  try clear q3
  try clear hx3
  try clear c4
  try clear c6
  try clear c10
  try clear c11
  try clear c11b0
  try clear c12
  try clear c12b0
  try clear c13
  try clear c17
  try clear hcz14_0 hfz14_0
  try clear hcz16_0 hfz16_0
  try clear hcz18_0 hfz18_0
  try clear hx340_0
  try clear p340
  try clear q340
  obtain ⟨kq,x27_5,rfl,HA,HJ5,BK337,BK338,HB⟩ := hcut
  cases kq with
  | zero => exact absurd HA.out (by simp [spec_Store.j0])
  | succ kj5 =>
   have H := HA.out
   clear HA
   simp only [spec_Store.j0] at H
   by_cases c20 : x27_5 = true
   ·subst c20
    have H1 : ((spec_l6Copy.f kj5 l0_0).bind fun t341 => ((some (([] : List Int) : List Int)).bind fun y344 => (if y344.length + l1.length < 17592186044416 then (some (t341,(y344 ++ l1))) else (none)))) = some (r1,r2) := by rw [if_pos rfl] at H;exact H
    clear H
    have H := H1
    clear H1
    replace H := Option.bind_eq_some_iff.mp H
    obtain ⟨t341,A210,H⟩ := H
    replace H : ((some (([] : List Int) : List Int)).bind fun y344 => (if y344.length + l1.length < 17592186044416 then (some (t341,(y344 ++ l1))) else (none))) = some (r1,r2) := H
    have A21 := Aside0.mk A210
    clear A210
    obtain ⟨y344,hy344⟩ : ∃ y_ : List Int,y_ = (([] : List Int)) := ⟨_,rfl⟩
    replace H : (if y344.length + l1.length < 17592186044416 then (some (t341,(y344 ++ l1))) else (none)) = some (r1,r2) := by first | (rw [hy344];with_reducible exact H) | (have H2_ := (Option.bind_some _ _).symm.trans H;rw [hy344];with_reducible exact H2_) | (have H2_ := (Option.bind_some _ _).symm.trans H;with_reducible exact H2_) | with_reducible exact H | (rw [hy344];exact H) | exact H
    have Ny344 := Aside0.mk hy344
    clear hy344
    by_cases c22 : y344.length + l1.length < 17592186044416
    ·rw [if_pos c22] at H
     have LMc22 := Aside0.mk c22
     clear c22
     obtain ⟨y347,hy347⟩ : ∃ y_ : List Int,y_ = (y344 ++ l1) := ⟨_,rfl⟩
     replace H : (some (t341,y347)) = some (r1,r2) := by first | (rw [hy347];with_reducible exact H) | (have H2_ := (Option.bind_some _ _).symm.trans H;rw [hy347];with_reducible exact H2_) | (have H2_ := (Option.bind_some _ _).symm.trans H;with_reducible exact H2_) | with_reducible exact H | (rw [hy347];exact H) | exact H
     have Ny347 := Aside0.mk hy347
     clear hy347
     simp only [Option.some.injEq,Prod.mk.injEq] at H
     obtain ⟨rfl,rfl⟩ := H
     have hnb23 := NB337_338.out
     have hnc23 := NB338_337.out
     have hcz24_0 : wc.cell? ⟨gb337,0,none⟩ = some (.slice A0_0 l0_0.length c0_0) := (blk_cell BK337.out 0).trans rfl
     have hfz24_0 := blk_frozen BK337.out 0
     go_wp2_with (first | ((with_reducible refine gate_callee (f := 85) rfl ?_);refine gL_ (some 29) Try.func85 #[.agg #[.slice A0_0 l0_0.length c0_0]] ?_;(with_reducible refine (spec_l6Copy.calls kj5 _ _ l0_0 t341 _ ?side1 ?side2 A21.out).mono ?_);(case side1 => exact cS_ (Kd.C_below HR0_0.out HB.out));(case side2 => exact HC0_0.out);rintro e w25 ⟨v342,rfl,ho0,hb⟩;refine ⟨_,rfl,?_⟩;have n0_ := Aside0.mk (Kd.S_lower (Kd.S_newM (M := fun k_ => (w.heap.size ≤ k_)) ho0 (below_size (gB_ HB.out)) (fun k_ h_ => h_)) (below_size (gB_ HB.out)));have n1_ := Aside0.mk (nB_ BK337.out hb);have n2_ := Aside0.mk (nB_ BK338.out hb);have n3_ := Aside0.mk (sT_ HB.out hb);clear BK337;clear BK338;clear HB;have HO343 := n0_;have BK337 := n1_;have BK338 := n2_;have HB := n3_;clear n0_ n1_ n2_ n3_;(try clear hb);(try clear hb2);(try clear hk);(try clear hi);(try clear ho0)) | ((with_reducible refine gate_dst (N := 30) rfl ?_);(try (refine gate_guard (by rfl) ?_;dsimp only));refine Kd.R_lit (Kd.int .i64) _ 3 ?hg (N := 30) ?hd (xs := ([] : List Int)) (inner := []) (ok := fun _ => True) (okp := fun _ => True) ?hr ?hp (fun _ hk => hk) trivial (Below.refl _ _) (Nat.le_refl _) (by simp) ?_;(case hd => rfl);(case hg => rfl);(case hr => first | (go_simp;done) | (go_simp;rfl));(case hp => exact (Reps.none _ _));intro v345 w26 ho27 hb hg_ hnew_;clear hg_ hnew_;(first | rw [← Ny344.out] at ho27 | (simp only [Int.reduceToNat] at ho27;rw [← Ny344.out] at ho27));have n0_ := Aside0.mk (Kd.S_elder' (by (with_reducible repeat (first | apply Kd.S_alloc | apply Kd.S_drewN | apply Kd.S_drew));exact HO343.out) (Kd.R_base ho27) hb);have n1_ := Aside0.mk (Kd.R_lower (Kd.R_newM (M := fun k_ => (w.heap.size ≤ k_)) ho27 (below_size (gB_ HB.out)) (fun k_ h_ => h_)) (below_size (gB_ HB.out)));have n2_ := Aside0.mk (nB_ BK337.out hb);have n3_ := Aside0.mk (nB_ BK338.out hb);have n4_ := Aside0.mk (sT_ HB.out hb);clear HO343;clear BK337;clear BK338;clear HB;have HO343 := n0_;have HO346 := n1_;have BK337 := n2_;have BK338 := n3_;have HB := n4_;clear n0_ n1_ n2_ n3_ n4_;clear hb ho27) | ((with_reducible refine gate_builtin (b := .append) (xs := #[.tmp 30,.tmp 31]) rfl ?_);(try (refine gate_guard (by rfl) ?_;dsimp only));at_builtin;refine Kd.R_append_rows (Kd.int .i64) (w0 := w) w.heap.size rfl (.tmp 30) (.tmp 31) 31 3 (.int .i64 0) 8 rfl Try.underlying31 info3 rfl (by decide) (by omega) v345 y344 l1 _ _ _ (fun k_ => (w.heap.size ≤ k_)) (fun _ => False) rfl rfl ?aO ?aR (fun _ _ h => h) (fun _ h => h.elim) ?aF ?aB ?aS ?aL ?_;(case aR => repeat (first | exact (Kd.C_below HR1.out HB.out) | (with_reducible refine Kd.C_alloc ?_ _) | (with_reducible refine Kd.C_drewN ?_ _) | (with_reducible refine Kd.C_drew ?_)));(case aB => exact (gB_ HB.out));(case aF => exact (fun k_ hk => (Nat.le_trans (below_size (gB_ HB.out)) hk)));(case aO => exact (by (with_reducible repeat (first | apply Kd.R_alloc | apply Kd.R_drewN | apply Kd.R_drew));exact Kd.R_mono HO346.out (fun _ hk => hk.1)));(case aS => exact (below_size (gB_ HB.out)));(case aL => have := LMc22.out;omega);intro v348 w28 ho hb hg hat;rw [← Ny347.out] at ho;have n0_ := Aside0.mk (blk_grown (g := gb337) (o := .cells #[.slice A0_0 l0_0.length c0_0] 24 (0,0)) (by (with_reducible repeat (first | refine blk_drewN ?_ _ | refine blk_drew ?_ | refine blk_alloc ?_ _));exact BK337.out) hg (Kd.R_ne HO346.out BK337.out (by decide)));have n1_ := Aside0.mk (blk_grown (g := gb338) (o := .cells #[.slice none 0 0] 24 (0,0)) (by (with_reducible repeat (first | refine blk_drewN ?_ _ | refine blk_drew ?_ | refine blk_alloc ?_ _));exact BK338.out) hg (Kd.R_ne HO346.out BK338.out (by decide)));have n2_ := Aside0.mk (Kd.S_after (ok := (fun k_ => (w.heap.size ≤ k_))) (by (with_reducible repeat (first | apply Kd.S_alloc | apply Kd.S_drewN | apply Kd.S_drew));exact Kd.S_mono HO343.out (fun _ hk => ⟨hk.1.1,hk.2⟩)) hg hat);have n3_ := Aside0.mk (hb);have n4_ := Aside0.mk (ho);clear BK337;clear BK338;clear HO343;clear HB;clear HO346;have BK337 := n0_;have BK338 := n1_;have HO343 := n2_;have HB := n3_;have HO349 := n4_;clear n0_ n1_ n2_ n3_ n4_;clear ho hb hg hat;obtain ⟨Ao29,co29,eo29⟩ := Kd.S_slice HO343.out;subst eo29;have hcz30_0 : w28.cell? ⟨gb338,0,none⟩ = some (.slice none 0 0) := (blk_cell BK338.out 0).trans rfl;have hfz30_0 := blk_frozen BK338.out 0))
     refine bodyPost_ret (results_ct rfl _ _ gb338 24 #[.slice Ao29 t341.length co29] (0,0) _ rfl (by (with_reducible repeat (first | refine blk_drewN ?_ _ | refine blk_drew ?_ | refine blk_alloc ?_ _));refine blk_put (cs := #[.slice none 0 0]) ?_ 0 _ rfl;exact rW_ BK338.out) Try.underlying24 rfl (by kernel_rfl)) rfl ?_
     exact ⟨_,_,fR_,(by (with_reducible repeat (first | apply Kd.S_alloc | apply Kd.S_drewN | apply Kd.S_drew));exact Kd.S_mono (Kd.S_far (p := ⟨gb338,0,none⟩) (Kd.S_types HO343.out BK338.out (by decide)) (fun _ hk => hk.2) (.slice Ao29 t341.length co29)) (fun _ hk => ⟨hk.1.1,hk.1.2⟩)),by (with_reducible repeat (first | apply Kd.R_alloc | apply Kd.R_drewN | apply Kd.R_drew));exact Kd.R_mono (Kd.R_far (p := ⟨gb338,0,none⟩) (Kd.R_types HO349.out BK338.out (by decide)) (fun _ hk => hk.2) (.slice Ao29 t341.length co29)) (fun _ hk => hk.1),gB_ HB.out⟩
    ·rw [if_neg c22] at H
     exact absurd H (by simp)
   ·replace c20 := Bool.eq_false_iff.mpr c20
    subst c20
    have H1 : ((spec_l6Copy.f kj5 l0_0).bind fun t350 => ((spec_l6Store.f t350 l1 a2 a3 a4).bind fun bt353 => (some (bt353.1,bt353.2)))) = some (r1,r2) := by rw [if_neg (show ¬ (false = true) by decide)] at H;exact H
    clear H
    have H := H1
    clear H1
    replace H := Option.bind_eq_some_iff.mp H
    obtain ⟨t350,A310,H⟩ := H
    replace H : ((spec_l6Store.f t350 l1 a2 a3 a4).bind fun bt353 => (some (bt353.1,bt353.2))) = some (r1,r2) := H
    have A31 := Aside0.mk A310
    clear A310
    replace H := Option.bind_eq_some_iff.mp H
    obtain ⟨⟨t353,t356⟩,A320,H⟩ := H
    replace H : (some (t353,t356)) = some (r1,r2) := H
    have A32 := Aside0.mk A320
    clear A320
    simp only [Option.some.injEq,Prod.mk.injEq] at H
    obtain ⟨rfl,rfl⟩ := H
    have hnb33 := NB337_338.out
    have hnc33 := NB338_337.out
    have hcz34_0 : wc.cell? ⟨gb337,0,none⟩ = some (.slice A0_0 l0_0.length c0_0) := (blk_cell BK337.out 0).trans rfl
    have hfz34_0 := blk_frozen BK337.out 0
    go_wp2_with (first | ((with_reducible refine gate_callee (f := 85) rfl ?_);refine gL_ (some 35) Try.func85 #[.agg #[.slice A0_0 l0_0.length c0_0]] ?_;(with_reducible refine (spec_l6Copy.calls kj5 _ _ l0_0 t350 _ ?side1 ?side2 A31.out).mono ?_);(case side1 => exact cS_ (Kd.C_below HR0_0.out HB.out));(case side2 => exact HC0_0.out);rintro e w35 ⟨v351,rfl,ho0,hb⟩;refine ⟨_,rfl,?_⟩;have n0_ := Aside0.mk (Kd.S_lower (Kd.S_newM (M := fun k_ => (w.heap.size ≤ k_)) ho0 (below_size (gB_ HB.out)) (fun k_ h_ => h_)) (below_size (gB_ HB.out)));have n1_ := Aside0.mk (nB_ BK337.out hb);have n2_ := Aside0.mk (nB_ BK338.out hb);have n3_ := Aside0.mk (sT_ HB.out hb);clear BK337;clear BK338;clear HB;have HO352 := n0_;have BK337 := n1_;have BK338 := n2_;have HB := n3_;clear n0_ n1_ n2_ n3_;(try clear hb);(try clear hb2);(try clear hk);(try clear hi);(try clear ho0);obtain ⟨Ao36,co36,eo36⟩ := Kd.S_slice HO352.out;subst eo36) | ((with_reducible refine gate_callee (f := 86) rfl ?_);refine gL_ (some 40) Try.func86 #[.agg #[.slice Ao36 t350.length co36],.slice A1 l1.length c1,.int .i64 a2,.int .i64 a3,.bool a4] ?_;(with_reducible refine (spec_l6Store.calls (fun k_ => ((((w.heap.size ≤ k_) ∧ True) ∧ k_ ≠ gb337) ∧ k_ ≠ gb338)) _ _ t350 _ _ l1 a2 a3 a4 t353 t356 w.heap.size _ ?side1 ?sideB ?side2 ?side3 A32.out).mono ?_);(case side1 => exact (Kd.S_types (Kd.S_types (HO352.out) BK337.out (by decide)) BK338.out (by decide)));(case sideB => exact (below_size (gB_ HB.out)));(case side2 => exact cS_ (Kd.C_below HR1.out HB.out));(case side3 => exact HC1.out);rintro e w37 ⟨v354,v357,rfl,ho0,ho1,hb,hk_⟩;refine ⟨_,rfl,?_⟩;have n0_ := Aside0.mk trivial;have n1_ := Aside0.mk (Kd.S_lower (Kd.S_mono (ok' := fun k_ => (w.heap.size ≤ k_) ∧ some k_ ≠ (v357 : Value).ownBlock ∧ k_ ≠ gb337 ∧ k_ ≠ gb338) ho0 (fun k_ hk_ => ⟨Or.elim hk_.1 (fun hs_ => hs_.1.1.1) (fun hn_ => (Nat.le_trans (below_size (gB_ HB.out)) hn_)),hk_.2,Or.elim hk_.1 (fun hs_ => hs_.1.2) (fun hn_ => (Kd.freshB (g := gb337) (o := .cells #[.slice A0_0 l0_0.length c0_0] 24 (0,0)) (by (with_reducible repeat (first | refine blk_drewN ?_ _ | refine blk_drew ?_ | refine blk_alloc ?_ _));exact BK337.out) k_ hn_)),Or.elim hk_.1 (fun hs_ => hs_.2) (fun hn_ => (Kd.freshB (g := gb338) (o := .cells #[.slice none 0 0] 24 (0,0)) (by (with_reducible repeat (first | refine blk_drewN ?_ _ | refine blk_drew ?_ | refine blk_alloc ?_ _));exact BK338.out) k_ hn_))⟩)) (Nat.le_refl _));have n2_ := Aside0.mk (Kd.R_lower (Kd.R_newM (M := fun k_ => (w.heap.size ≤ k_)) (Kd.R_mono (ok' := fun k_ => True) ho1 (fun _ hk_ => trivial)) (below_size (gB_ HB.out)) (fun k_ h_ => h_)) (below_size (gB_ HB.out)));have n3_ := Aside0.mk (blk_kept (g := gb337) (o := .cells #[.slice A0_0 l0_0.length c0_0] 24 (0,0)) (by (with_reducible repeat (first | refine blk_drewN ?_ _ | refine blk_drew ?_ | refine blk_alloc ?_ _));exact BK337.out) hk_ (fun h_ => absurd rfl (by first | exact h_.2 | exact h_.1.2 | exact h_.1.1.2 | exact h_.1.1.1.2)));have n4_ := Aside0.mk (blk_kept (g := gb338) (o := .cells #[.slice none 0 0] 24 (0,0)) (by (with_reducible repeat (first | refine blk_drewN ?_ _ | refine blk_drew ?_ | refine blk_alloc ?_ _));exact BK338.out) hk_ (fun h_ => absurd rfl (by first | exact h_.2 | exact h_.1.2 | exact h_.1.1.2 | exact h_.1.1.1.2)));have n5_ := Aside0.mk (Below.trans (gB_ HB.out) hb);clear HO352;clear BK337;clear BK338;clear HB;have HO352 := n0_;have HO355 := n1_;have HO358 := n2_;have BK337 := n3_;have BK338 := n4_;have HB := n5_;clear n0_ n1_ n2_ n3_ n4_ n5_;(try clear hb);(try clear hk_);(try clear hb2);(try clear hk);(try clear hi);(try clear ho0);(try clear ho1)) | ((with_reducible refine gate_dst (N := 12) rfl ?_);(try (refine gate_guard (by rfl) ?_;dsimp only));refine bX_ 12 (cs := #[.slice none 0 0]) (t := 24) ?_;intro gb359 hg w38 hbox hb;have n0_ := Aside0.mk trivial;have n1_ := Aside0.mk (Kd.S_below (Kd.S_elderB (by (with_reducible repeat (first | apply Kd.S_alloc | apply Kd.S_drewN | apply Kd.S_drew));exact HO355.out) gb359 (Nat.le_of_eq hg.symm)) hb);have n2_ := Aside0.mk (bR_ HO358.out hb);have n3_ := Aside0.mk (nB_ BK337.out hb);have n4_ := Aside0.mk (nB_ BK338.out hb);have n5_ := Aside0.mk (sT_ HB.out hb);have n6_ := Aside0.mk (hbox);have n7_ := Aside0.mk (sZ_ hg HB.out);have n8_ := Aside0.mk (sZ_ hg HB.out);have n9_ := Aside0.mk (nL_ hg BK337.out);have n10_ := Aside0.mk (nG_ hg BK337.out);have n11_ := Aside0.mk (nL_ hg BK338.out);have n12_ := Aside0.mk (nG_ hg BK338.out);clear HO352;clear HO355;clear HO358;clear BK337;clear BK338;clear HB;have HO352 := n0_;have HO355 := n1_;have HO358 := n2_;have BK337 := n3_;have BK338 := n4_;have HB := n5_;have BK359 := n6_;have GW359 := n7_;have GE359 := n8_;have NB337_359 := n9_;have NB359_337 := n10_;have NB338_359 := n11_;have NB359_338 := n12_;clear n0_ n1_ n2_ n3_ n4_ n5_ n6_ n7_ n8_ n9_ n10_ n11_ n12_;clear hb hbox hg;obtain ⟨Ao39,co39,eo39⟩ := Kd.S_slice HO355.out;subst eo39;have hnb40 := NB359_337.out;have hnc40 := NB337_359.out;have hnb41 := NB359_338.out;have hnc41 := NB338_359.out;have hcz42_0 : w38.cell? ⟨gb359,0,none⟩ = some (.slice none 0 0) := (blk_cell BK359.out 0).trans rfl;have hfz42_0 := blk_frozen BK359.out 0;have hcz43_0 : w38.cell? ⟨gb338,0,none⟩ = some (.slice none 0 0) := (blk_cell BK338.out 0).trans rfl;have hfz43_0 := blk_frozen BK338.out 0))
    refine bodyPost_ret (results_ct rfl _ _ gb338 24 #[.slice Ao39 t353.length co39] (0,0) _ rfl (by (with_reducible repeat (first | refine blk_drewN ?_ _ | refine blk_drew ?_ | refine blk_alloc ?_ _));refine blk_put (cs := #[.slice none 0 0]) ?_ 0 _ rfl;exact rWf_ BK338.out) Try.underlying24 rfl (by kernel_rfl)) rfl ?_
    exact ⟨_,_,fR_,by (with_reducible repeat (first | apply Kd.S_alloc | apply Kd.S_drewN | apply Kd.S_drew));exact Kd.S_mono (Kd.S_far (p := ⟨gb338,0,none⟩) (Kd.S_far (p := ⟨gb359,0,none⟩) (Kd.S_mono (Kd.S_mono HO355.out (fun k_ hk => (⟨hk,hk.2⟩ : _ ∧ k_ ≠ gb359))) (fun k_ hk => (⟨hk,hk.1.1.2.2.2⟩ : _ ∧ k_ ≠ gb338))) (fun _ hk => hk.1.2) (.slice Ao39 t353.length co39)) (fun _ hk => hk.2) (.slice Ao39 t353.length co39)) (fun _ hk => ⟨hk.1.1.1.1,hk.1.1.1.2.1⟩),by (with_reducible repeat (first | apply Kd.R_alloc | apply Kd.R_drewN | apply Kd.R_drew));exact Kd.R_mono (Kd.R_far (p := ⟨gb338,0,none⟩) (Kd.R_far (p := ⟨gb359,0,none⟩) (Kd.R_types (Kd.R_types HO358.out BK359.out (by decide)) BK338.out (by decide)) (fun _ hk => hk.1.2) (.slice Ao39 t353.length co39)) (fun _ hk => hk.2) (.slice Ao39 t353.length co39)) (fun _ hk => hk.1.1.1),gB_ HB.out⟩
theorem spec_Store.calls (k : Nat) (A0_0 : Option Addr) (c0_0 : Nat) (l0_0 : List (List (S43))) (A1 : Option Addr) (c1 : Nat) (l1 : List Int) (a2 : Int) (a3 : Int) (a4 : Bool) (r1 : List (List (S43))) (r2 : List Int) (w : World) (hr0_0 : Kd.C (Kd.slice 43 k43) w A0_0 l0_0.length l0_0) (hc0_0 : l0_0.length ≤ c0_0) (hr1 : Kd.C (Kd.int .i64) w A1 l1.length l1) (hc1 : l1.length ≤ c1) (h : spec_Store.f k l0_0 l1 a2 a3 a4 = some (r1,r2)) :
  Calls Try.prog 43 #[.agg #[.slice A0_0 l0_0.length c0_0],.slice A1 l1.length c1,.int .i64 a2,.int .i64 a3,.bool a4] w fun e w' => ∃ v0_ v1_ : Value,e = .returned (.tuple #[.agg #[v0_],v1_]) ∧ Kd.V (Kd.slice 43 k43) 44 w' w.heap.size (fun k_ => (w.heap.size ≤ k_) ∧ some k_ ≠ (v1_ : Value).ownBlock) v0_ r1 ∧ Kd.R (Kd.int .i64) 3 w' w.heap.size (fun k_ => (w.heap.size ≤ k_)) v1_ r2 ∧ Below w.heap.size w w' :=
 (spec_Store.callsS k A0_0 c0_0 l0_0 A1 c1 l1 a2 a3 a4 r1 r2 w hr0_0 hc0_0 hr1 hc1 h).mono fun e w' ⟨v0_,v1_,h0_,h1_,h2_,h3_⟩ => ⟨v0_,v1_,h0_,Kd.R_V (S_Rs h1_),h2_,h3_⟩
end Go.Proofs.Ythbcnakmnbilhaa.PFnStore
