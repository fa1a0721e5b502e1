/- A part of the proof that the law FnExactSwap holds for every input: the words, functions and walks that its row needs, without a condition of their own. -/
import Derived.Test.YthbcnakmnbilhaaZFnExactSwapa2
import Derived.Test.YthbcnakmnbilhaaZFnExactSwapa3
import Derived.Test.YthbcnakmnbilhaaZFnExactSwapa9
import Derived.Test.YthbcnakmnbilhaaZFnExactSwapa10
import Derived.Test.YthbcnakmnbilhaaZFnExactSwapa11
import Derived.Test.YthbcnakmnbilhaaZFnExactSwaps
namespace Go.Proofs.Ythbcnakmnbilhaa.PFnExactSwap
open Go.RowKit Go.Proofs.YthbcnakmnbilhaaW.PrintWords Go.Proofs.YthbcnakmnbilhaaW.PrintLast Go.Proofs.YthbcnakmnbilhaaW.PrintMore Go.Proofs.Ythbcnakmnbilhaa.SepMark
attribute [local go_sem] max2_int min2_int max_two min_two max_three min_three max_four min_four   -- for this text's walks alone
set_option linter.unusedVariables false
set_option linter.unusedSimpArgs false
def spec_l6Store.f (l0_0 : List (List (S43))) (l1 : List Int) (a2 : Int) (a3 : Int) (a4 : Bool) : Option ((List (List (S43))) × List Int) := (some (([] : List Int) : List Int)).bind fun y327 => (if y327.length + l1.length < 17592186044416 then ((some (y327 ++ l1 : List Int)).bind fun y330 => (if 0 ≤ a2 then (if a2 < (l0_0.length : Int) then (if a2 < (y330.length : Int) then ((some (y330.set (a2 : Int).toNat ((rd_L3 l0_0 a2).length : Int) : List Int)).bind fun y334 => (if 24 ≤ 35184372088832 then (if a2 < ((List.replicate 24 0).length : Int) then (if a4 = true then (if (([] : List Int)).length + y334.length < 17592186044416 then (if (rd_L3 l0_0 a2).length < 4398046511104 then (some (l0_0.set (a2 : Int).toNat (rd_L3 l0_0 a2 ++ [(⟨a3, (([] : List Int)) ++ y334⟩ : S43)]), y334)) else (none)) else (none)) else (if (rd_L3 l0_0 a2).length < 4398046511104 then (some (l0_0.set (a2 : Int).toNat (rd_L3 l0_0 a2 ++ [(⟨a3, (List.replicate 24 0).set (a2 : Int).toNat (rd y334 a2)⟩ : S43)]), y334)) else (none))) else (none)) else (none))) else (none)) else (none)) else (none))) else (none))
def spec_l6Store.T4 : Bool × List (List Nat × List Nat) := (true, [([], []), ([0], [0]), ([], []), ([], []), ([], []), ([3, 4], [3, 4]), ([5], [5]), ([1, 2, 0, 1, 2, 3, 4, 5, 6], [1, 2]), ([7, 6, 0, 1, 2, 3, 4, 5, 6], [6, 7])])
def spec_l6Store.B4 : List Nat := [0, 1, 0, 0, 0, 24, 56, 127, 255]
theorem spec_l6Store.tab4 : rtab .any (opsOf Try.f86 4) = spec_l6Store.T4 := by kernel_rfl
theorem spec_l6Store.bits4 : waitsOk spec_l6Store.T4.2 spec_l6Store.B4 = true := by kernel_rfl
set_option maxHeartbeats 8000000 in
set_option maxRecDepth 100000 in
theorem spec_l6Store.calls (P0_0_ : Nat → Prop) (A0_0 : Option Addr) (c0_0 : Nat) (l0_0 : List (List (S43))) (A1 : Option Addr) (c1 : Nat) (l1 : List Int) (a2 : Int) (a3 : Int) (a4 : Bool) (r1 : List (List (S43))) (r2 : List Int) (b0 : Nat) (w : World) (hS0 : Kd.S (sslice 43 k43) 44 w b0 P0_0_ (.slice A0_0 l0_0.length c0_0) l0_0) (hb0 : b0 ≤ w.heap.size) (hr1 : Kd.C (Kd.int .i64) w A1 l1.length l1) (hc1 : l1.length ≤ c1) (h : spec_l6Store.f l0_0 l1 a2 a3 a4 = some (r1, r2)) :
  Calls Try.prog 86 #[.agg #[.slice A0_0 l0_0.length c0_0], .slice A1 l1.length c1, .int .i64 a2, .int .i64 a3, .bool a4] w fun e w' => ∃ v0_ v1_ : Value, e = .returned (.tuple #[.agg #[v0_], v1_]) ∧ Kd.S (sslice 43 k43) 44 w' b0 (fun k_ => (P0_0_ k_ ∨ w.heap.size ≤ k_) ∧ some k_ ≠ (v1_ : Value).ownBlock) v0_ r1 ∧ Kd.R (Kd.int .i64) 3 w' w.heap.size (fun k_ => (w.heap.size ≤ k_)) v1_ r2 ∧ Below b0 w w' ∧ Kept w w' P0_0_ := by
 have hs0_0 : Kd.V (Kd.slice 43 k43) 44 w w.heap.size (fun k_ => P0_0_ k_) (.slice A0_0 l0_0.length c0_0) l0_0 := Kd.R_V (S_Rs hS0)
 have hS := aM_ hS0
 have hb0w := aM_ hb0
 clear hS0 hb0
 have hu24 := Try.underlying24
 have hu43 := Try.underlying43
 have HO0_0 := aM_ (show Kd.V (Kd.slice 43 k43) 44 w w.heap.size (fun k_ => (P0_0_ k_ ∨ w.heap.size ≤ k_)) (.slice A0_0 l0_0.length c0_0) l0_0 from Kd.V_mono hs0_0 (fun k_ hk => .inl hk))
 have HR1 := aM_ hr1
 have HC1 := aM_ hc1
 clear hr1 hc1
 have HB := aM_ (Below.refl w.heap.size w)
 have H : ((some (([] : List Int) : List Int)).bind fun y327 => (if y327.length + l1.length < 17592186044416 then ((some (y327 ++ l1 : List Int)).bind fun y330 => (if 0 ≤ a2 then (if a2 < (l0_0.length : Int) then (if a2 < (y330.length : Int) then ((some (y330.set (a2 : Int).toNat ((rd_L3 l0_0 a2).length : Int) : List Int)).bind fun y334 => (if 24 ≤ 35184372088832 then (if a2 < ((List.replicate 24 0).length : Int) then (if a4 = true then (if (([] : List Int)).length + y334.length < 17592186044416 then (if (rd_L3 l0_0 a2).length < 4398046511104 then (some (l0_0.set (a2 : Int).toNat (rd_L3 l0_0 a2 ++ [(⟨a3, (([] : List Int)) ++ y334⟩ : S43)]), y334)) else (none)) else (none)) else (if (rd_L3 l0_0 a2).length < 4398046511104 then (some (l0_0.set (a2 : Int).toNat (rd_L3 l0_0 a2 ++ [(⟨a3, (List.replicate 24 0).set (a2 : Int).toNat (rd y334 a2)⟩ : S43)]), y334)) else (none))) else (none)) else (none))) else (none)) else (none)) else (none))) else (none))) = some (r1, r2) := h
 clear h
 obtain ⟨y327, hy327⟩ : ∃ y_ : List Int, y_ = (([] : List Int)) := ⟨_, rfl⟩
 replace H : (if y327.length + l1.length < 17592186044416 then ((some (y327 ++ l1 : List Int)).bind fun y330 => (if 0 ≤ a2 then (if a2 < (l0_0.length : Int) then (if a2 < (y330.length : Int) then ((some (y330.set (a2 : Int).toNat ((rd_L3 l0_0 a2).length : Int) : List Int)).bind fun y334 => (if 24 ≤ 35184372088832 then (if a2 < ((List.replicate 24 0).length : Int) then (if a4 = true then (if (([] : List Int)).length + y334.length < 17592186044416 then (if (rd_L3 l0_0 a2).length < 4398046511104 then (some (l0_0.set (a2 : Int).toNat (rd_L3 l0_0 a2 ++ [(⟨a3, (([] : List Int)) ++ y334⟩ : S43)]), y334)) else (none)) else (none)) else (if (rd_L3 l0_0 a2).length < 4398046511104 then (some (l0_0.set (a2 : Int).toNat (rd_L3 l0_0 a2 ++ [(⟨a3, (List.replicate 24 0).set (a2 : Int).toNat (rd y334 a2)⟩ : S43)]), y334)) else (none))) else (none)) else (none))) else (none)) else (none)) else (none))) else (none)) = some (r1, r2) := by first | (rw [hy327]; with_reducible exact H) | (have H2_ := (Option.bind_some _ _).symm.trans H; rw [hy327]; with_reducible exact H2_) | (have H2_ := (Option.bind_some _ _).symm.trans H; with_reducible exact H2_) | with_reducible exact H | (rw [hy327]; exact H) | exact H
 have Ny327 := aM_ hy327
 clear hy327
 by_cases c6 : y327.length + l1.length < 17592186044416
 ·rw [if_pos c6] at H
  have LMc6 := aM_ c6
  clear c6
  obtain ⟨y330, hy330⟩ : ∃ y_ : List Int, y_ = (y327 ++ l1) := ⟨_, rfl⟩
  replace H : (if 0 ≤ a2 then (if a2 < (l0_0.length : Int) then (if a2 < (y330.length : Int) then ((some (y330.set (a2 : Int).toNat ((rd_L3 l0_0 a2).length : Int) : List Int)).bind fun y334 => (if 24 ≤ 35184372088832 then (if a2 < ((List.replicate 24 0).length : Int) then (if a4 = true then (if (([] : List Int)).length + y334.length < 17592186044416 then (if (rd_L3 l0_0 a2).length < 4398046511104 then (some (l0_0.set (a2 : Int).toNat (rd_L3 l0_0 a2 ++ [(⟨a3, (([] : List Int)) ++ y334⟩ : S43)]), y334)) else (none)) else (none)) else (if (rd_L3 l0_0 a2).length < 4398046511104 then (some (l0_0.set (a2 : Int).toNat (rd_L3 l0_0 a2 ++ [(⟨a3, (List.replicate 24 0).set (a2 : Int).toNat (rd y334 a2)⟩ : S43)]), y334)) else (none))) else (none)) else (none))) else (none)) else (none)) else (none)) = some (r1, r2) := by first | (rw [hy330]; with_reducible exact H) | (have H2_ := (Option.bind_some _ _).symm.trans H; rw [hy330]; with_reducible exact H2_) | (have H2_ := (Option.bind_some _ _).symm.trans H; with_reducible exact H2_) | with_reducible exact H | (rw [hy330]; exact H) | exact H
  have Ny330 := aM_ hy330
  clear hy330
  by_cases c7 : 0 ≤ a2
  ·rw [if_pos c7] at H
   have c7b0 : decide (0 ≤ a2) = true := decide_eq_true c7
   clear c7
   by_cases c8 : a2 < (l0_0.length : Int)
   ·rw [if_pos c8] at H
    have c8b0 : decide (a2 < (l0_0.length : Int)) = true := decide_eq_true c8
    clear c8
    by_cases c9 : a2 < (y330.length : Int)
    ·rw [if_pos c9] at H
     have c9b0 : decide (a2 < (y330.length : Int)) = true := decide_eq_true c9
     clear c9
     obtain ⟨y334, hy334⟩ : ∃ y_ : List Int, y_ = (y330.set (a2 : Int).toNat ((rd_L3 l0_0 a2).length : Int)) := ⟨_, rfl⟩
     replace H : (if 24 ≤ 35184372088832 then (if a2 < ((List.replicate 24 0).length : Int) then (if a4 = true then (if (([] : List Int)).length + y334.length < 17592186044416 then (if (rd_L3 l0_0 a2).length < 4398046511104 then (some (l0_0.set (a2 : Int).toNat (rd_L3 l0_0 a2 ++ [(⟨a3, (([] : List Int)) ++ y334⟩ : S43)]), y334)) else (none)) else (none)) else (if (rd_L3 l0_0 a2).length < 4398046511104 then (some (l0_0.set (a2 : Int).toNat (rd_L3 l0_0 a2 ++ [(⟨a3, (List.replicate 24 0).set (a2 : Int).toNat (rd y334 a2)⟩ : S43)]), y334)) else (none))) else (none)) else (none)) = some (r1, r2) := by first | (rw [hy334]; with_reducible exact H) | (have H2_ := (Option.bind_some _ _).symm.trans H; rw [hy334]; with_reducible exact H2_) | (have H2_ := (Option.bind_some _ _).symm.trans H; with_reducible exact H2_) | with_reducible exact H | (rw [hy334]; exact H) | exact H
     have Ny334 := aM_ hy334
     clear hy334
     by_cases c11 : 24 ≤ 35184372088832
     ·rw [if_pos c11] at H
      have c11b0 := eq_true c11
      have c11b1 : decide (24 ≤ 35184372088832) = true := decide_eq_true c11
      clear c11
      obtain ⟨y335, hy335⟩ : ∃ y_ : List Int, y_ = (List.replicate 24 0) := ⟨_, rfl⟩
      replace H : (if a2 < (y335.length : Int) then (if a4 = true then (if (([] : List Int)).length + y334.length < 17592186044416 then (if (rd_L3 l0_0 a2).length < 4398046511104 then (some (l0_0.set (a2 : Int).toNat (rd_L3 l0_0 a2 ++ [(⟨a3, (([] : List Int)) ++ y334⟩ : S43)]), y334)) else (none)) else (none)) else (if (rd_L3 l0_0 a2).length < 4398046511104 then (some (l0_0.set (a2 : Int).toNat (rd_L3 l0_0 a2 ++ [(⟨a3, y335.set (a2 : Int).toNat (rd y334 a2)⟩ : S43)]), y334)) else (none))) else (none)) = some (r1, r2) := by first | (rw [hy335]; with_reducible exact H) | (have H2_ := (Option.bind_some _ _).symm.trans H; rw [hy335]; with_reducible exact H2_) | (have H2_ := (Option.bind_some _ _).symm.trans H; with_reducible exact H2_) | with_reducible exact H | (rw [hy335]; exact H) | exact H
      have Ny335 := aM_ hy335
      clear hy335
      by_cases c12 : a2 < (y335.length : Int)
      ·rw [if_pos c12] at H
       have c12b0 : decide (a2 < (y335.length : Int)) = true := decide_eq_true c12
       clear c12
       obtain ⟨y340, hy340⟩ : ∃ y_ : List Int, y_ = (y335.set (a2 : Int).toNat (rd y334 a2)) := ⟨_, rfl⟩
       replace H : (if a4 = true then (if (([] : List Int)).length + y334.length < 17592186044416 then (if (rd_L3 l0_0 a2).length < 4398046511104 then (some (l0_0.set (a2 : Int).toNat (rd_L3 l0_0 a2 ++ [(⟨a3, (([] : List Int)) ++ y334⟩ : S43)]), y334)) else (none)) else (none)) else (if (rd_L3 l0_0 a2).length < 4398046511104 then (some (l0_0.set (a2 : Int).toNat (rd_L3 l0_0 a2 ++ [(⟨a3, y340⟩ : S43)]), y334)) else (none))) = some (r1, r2) := by first | (rw [hy340]; with_reducible exact H) | (have H2_ := (Option.bind_some _ _).symm.trans H; rw [hy340]; with_reducible exact H2_) | (have H2_ := (Option.bind_some _ _).symm.trans H; with_reducible exact H2_) | with_reducible exact H | (rw [hy340]; exact H) | exact H
       have Ny340 := aM_ hy340
       clear hy340
       by_cases c14 : a4 = true
       ·subst c14
        have H1 : (if (([] : List Int)).length + y334.length < 17592186044416 then (if (rd_L3 l0_0 a2).length < 4398046511104 then (some (l0_0.set (a2 : Int).toNat (rd_L3 l0_0 a2 ++ [(⟨a3, (([] : List Int)) ++ y334⟩ : S43)]), y334)) else (none)) else (none)) = some (r1, r2) := by rw [if_pos rfl] at H; exact H
        clear H
        have H := H1
        clear H1
        obtain ⟨y341, hy341⟩ : ∃ y_ : List Int, y_ = (([] : List Int)) := ⟨_, rfl⟩
        replace H : (if y341.length + y334.length < 17592186044416 then (if (rd_L3 l0_0 a2).length < 4398046511104 then (some (l0_0.set (a2 : Int).toNat (rd_L3 l0_0 a2 ++ [(⟨a3, y341 ++ y334⟩ : S43)]), y334)) else (none)) else (none)) = some (r1, r2) := by first | (rw [hy341]; with_reducible exact H) | (have H2_ := (Option.bind_some _ _).symm.trans H; rw [hy341]; with_reducible exact H2_) | (have H2_ := (Option.bind_some _ _).symm.trans H; with_reducible exact H2_) | with_reducible exact H | (rw [hy341]; exact H) | exact H
        have Ny341 := aM_ hy341
        clear hy341
        by_cases c15 : y341.length + y334.length < 17592186044416
        ·rw [if_pos c15] at H
         have LMc15 := aM_ c15
         clear c15
         obtain ⟨y344, hy344⟩ : ∃ y_ : List Int, y_ = (y341 ++ y334) := ⟨_, rfl⟩
         replace H : (if (rd_L3 l0_0 a2).length < 4398046511104 then (some (l0_0.set (a2 : Int).toNat (rd_L3 l0_0 a2 ++ [(⟨a3, y344⟩ : S43)]), y334)) else (none)) = some (r1, r2) := by first | (rw [hy344]; with_reducible exact H) | (have H2_ := (Option.bind_some _ _).symm.trans H; rw [hy344]; with_reducible exact H2_) | (have H2_ := (Option.bind_some _ _).symm.trans H; with_reducible exact H2_) | with_reducible exact H | (rw [hy344]; exact H) | exact H
         have Ny344 := aM_ hy344
         clear hy344
         by_cases cP : (rd_L3 l0_0 a2).length < 4398046511104
         case neg => rw [if_neg cP] at H; exact absurd H (by simp)
         rw [if_pos cP] at H
         have LMcP := aM_ cP
         clear cP
         obtain ⟨yP, hyP⟩ : ∃ y_ : List S43, y_ = rd_L3 l0_0 a2 ++ [(⟨a3, y344⟩ : S43)] := ⟨_, rfl⟩
         replace H : (some (l0_0.set (a2 : Int).toNat yP, y334)) = some (r1, r2) := by rw [hyP]; exact H
         have NyP := aM_ hyP
         clear hyP
         simp only [Option.some.injEq, Prod.mk.injEq] at H
         obtain ⟨rfl, rfl⟩ := H
         go_enter Try.func86, Try.ntmps86
         try go_wp2_with (first | ((with_reducible refine gate_dst (N := 5) rfl ?_); refine bX_ 5 (cs := #[.slice A0_0 l0_0.length c0_0]) (t := 24) ?_; intro gb325 hg w16 hbox hb; have n0 := aM_ (Kd.V_below (Kd.V_elderB (by (with_reducible repeat (first | apply Kd.V_alloc | apply Kd.V_drewN | apply Kd.V_drew)); exact HO0_0.out) gb325 (Nat.le_of_eq hg.symm)) hb); have n1 := aM_ (sT_ HB.out hb); have n2 := aM_ (hbox); have n3 := aM_ (sZ_ hg HB.out); have n4 := aM_ (sZ_ hg HB.out); clear HO0_0; clear HB; have HO0_0 := n0; have HB := n1; have BK325 := n2; have GW325 := n3; have GE325 := n4; clear n0 n1 n2 n3 n4; clear hb hbox hg) | ((with_reducible refine gate_dst (N := 10) rfl ?_); refine bX_ 10 (cs := #[.slice none 0 0]) (t := 24) ?_; intro gb326 hg w17 hbox hb; have n0 := aM_ (Kd.V_below (Kd.V_elderB (by (with_reducible repeat (first | apply Kd.V_alloc | apply Kd.V_drewN | apply Kd.V_drew)); exact HO0_0.out) gb326 (Nat.le_of_eq hg.symm)) hb); have n1 := aM_ (nB_ BK325.out hb); have n2 := aM_ (sT_ HB.out hb); have n3 := aM_ (hbox); have n4 := aM_ (sZ_ hg HB.out); have n5 := aM_ (sZ_ hg HB.out); have n6 := aM_ (nL_ hg BK325.out); have n7 := aM_ (nG_ hg BK325.out); clear HO0_0; clear BK325; clear HB; have HO0_0 := n0; have BK325 := n1; have HB := n2; have BK326 := n3; have GW326 := n4; have GE326 := n5; have NB325_326 := n6; have NB326_325 := n7; clear n0 n1 n2 n3 n4 n5 n6 n7; clear hb hbox hg) | ((with_reducible refine gate_dst (N := 14) rfl ?_); refine Kd.R_lit (Kd.int .i64) _ 3 ?hg (N := 14) ?hd (xs := ([] : List Int)) (inner := []) (ok := fun _ => True) (okp := fun _ => True) ?hr ?hp (fun _ hk => hk) trivial (Below.refl _ _) (Nat.le_refl _) (by simp) ?_; (case hd => rfl); (case hg => rfl); (case hr => first | (go_simp; done) | (go_simp; rfl)); (case hp => exact (Reps.none _ _)); intro v328 w18 ho19 hb hg_ hnew_; clear hg_ hnew_; (first | rw [← Ny327.out] at ho19 | (simp only [Int.reduceToNat] at ho19; rw [← Ny327.out] at ho19)); have n0 := aM_ (Kd.V_elder' (by (with_reducible repeat (first | apply Kd.V_alloc | apply Kd.V_drewN | apply Kd.V_drew)); exact HO0_0.out) (Kd.R_base ho19) hb); have n1 := aM_ (Kd.R_lower (Kd.R_newM (M := fun k_ => (w.heap.size ≤ k_)) ho19 (below_size (gB_ HB.out)) (fun k_ h_ => h_)) (below_size (gB_ HB.out))); have n2 := aM_ (nB_ BK325.out hb); have n3 := aM_ (nB_ BK326.out hb); have n4 := aM_ (sT_ HB.out hb); clear HO0_0; clear BK325; clear BK326; clear HB; have HO0_0 := n0; have HO329 := n1; have BK325 := n2; have BK326 := n3; have HB := n4; clear n0 n1 n2 n3 n4; clear hb ho19) | ((with_reducible refine gate_builtin (b := .append) (xs := #[.tmp 14, .tmp 15]) rfl ?_); at_builtin; refine Kd.R_append_rows (Kd.int .i64) (w0 := w) w.heap.size rfl (.tmp 14) (.tmp 15) 31 3 (.int .i64 0) 8 rfl Try.underlying31 info3 rfl (by decide) (by omega) v328 y327 l1 _ _ _ (fun k_ => (w.heap.size ≤ k_)) (fun _ => False) rfl rfl ?aO ?aR (fun _ _ h => h) (fun _ h => h.elim) ?aF ?aB ?aS ?aL ?_; (case aR => repeat (first | exact (Kd.C_below HR1.out HB.out) | (with_reducible refine Kd.C_alloc ?_ _) | (with_reducible refine Kd.C_drewN ?_ _) | (with_reducible refine Kd.C_drew ?_))); (case aB => exact (gB_ HB.out)); (case aF => exact (fun k_ hk => (Nat.le_trans (below_size (gB_ HB.out)) hk))); (case aO => exact (by (with_reducible repeat (first | apply rA_ | apply rN_ | apply rD_)); exact Kd.R_mono HO329.out (fun _ hk => hk.1))); (case aS => exact (below_size (gB_ HB.out))); (case aL => have := LMc6.out; omega); intro v331 w20 ho hb hg hat; rw [← Ny330.out] at ho; have n0 := aM_ (Kd.V_afterv (ok := (fun k_ => (P0_0_ k_ ∨ w.heap.size ≤ k_) ∧ k_ ≠ gb325 ∧ k_ ≠ gb326)) (by (with_reducible repeat (first | apply Kd.V_alloc | apply Kd.V_drewN | apply Kd.V_drew)); exact Kd.V_mono HO0_0.out (fun _ hk => ⟨⟨hk.1.1.1, ⟨hk.1.1.2, hk.1.2⟩⟩, hk.2⟩)) hg hat); have n1 := aM_ (blk_grown (g := gb325) (o := .cells #[.slice A0_0 l0_0.length c0_0] 24 (0, 0)) (by (with_reducible repeat (first | refine bN_ ?_ _ | refine bD_ ?_ | refine bA_ ?_ _)); exact BK325.out) hg (Kd.R_ne HO329.out BK325.out (by decide))); have n2 := aM_ (blk_grown (g := gb326) (o := .cells #[.slice none 0 0] 24 (0, 0)) (by (with_reducible repeat (first | refine bN_ ?_ _ | refine bD_ ?_ | refine bA_ ?_ _)); exact BK326.out) hg (Kd.R_ne HO329.out BK326.out (by decide))); have n3 := aM_ (hb); have n4 := aM_ (ho); clear HO0_0; clear BK325; clear BK326; clear HB; clear HO329; have HO0_0 := n0; have BK325 := n1; have BK326 := n2; have HB := n3; have HO332 := n4; clear n0 n1 n2 n3 n4; clear ho hb hg hat; have hnb21 := NB325_326.out; have hnc21 := NB326_325.out; have hcz22_0 : w20.cell? ⟨gb325, 0, none⟩ = some (.slice A0_0 l0_0.length c0_0) := (blk_cell BK325.out 0).trans rfl; have hfz22_0 := blk_frozen BK325.out 0; have p333 : 0 ≤ (a2 : Int) := of_decide_eq_true (by first | (with_reducible assumption) | assumption); have q333 : a2 < (l0_0.length : Int) := of_decide_eq_true (by first | (with_reducible assumption) | assumption); obtain ⟨ad333, A333_0, c333_0, e333, hx333_0, hl333_0, hi333_0⟩ := at_L3 (Kd.V_reads' HO0_0.out).2.2 a2 p333 q333; cases e333; obtain ⟨ce333, hce333, hMe333, hcc333⟩ := Kd.V_get HO0_0.out [] a2 p333 (by first | exact q333 | exact of_decide_eq_true (by first | (with_reducible assumption) | assumption) | (have e_ := (Kd.V_reads' HO0_0.out).1; omega)); obtain ⟨ua333_0, uc333_0, rfl, ul333_0, ge333_0⟩ := Kd.FK_slice_open hMe333; have hv333_0 := hcc333 0 _ rfl; rw [Nat.add_zero, show ((Kd.slice 43 k43)).sz = 1 from rfl, Nat.mul_one] at hv333_0; replace hv333_0 := Option.some.inj (hv333_0.symm.trans hx333_0); injection hv333_0 with hva_ hvn_ hvc_; rw [hva_] at ge333_0; rw [hvc_] at ul333_0; have HL333_0 := aM_ (show Kd.V k43 43 _ w.heap.size _ _ (rd_L3 l0_0 a2) from Kd.V_mk ul333_0 ge333_0); clear hva_ hvn_ hvc_ ge333_0 ul333_0; clear hcc333 hce333; have HR333_0 := aM_ hi333_0; have HC333_0 := aM_ hl333_0; clear hi333_0 hl333_0; replace p333 := eq_true p333; replace q333 := eq_true q333; have p10 : 0 ≤ (a2 : Int) := of_decide_eq_true (by first | (with_reducible assumption) | assumption); have q10 : (a2 : Int) < ((y330.length : Int) : Int) := of_decide_eq_true (by first | (with_reducible assumption) | assumption); obtain ⟨go10, co10, eo10, gb10, gl10, cl10, HG10⟩ := Kd.R_form HO332.out (by omega); (first | cases eo10 | (injection eo10 with ea_ en_ ec_; (first | subst ea_ | (injection ea_ with ea_; subst ea_)); subst ec_; clear en_)); have GB10 := aM_ gb10; have GG10 := aM_ HG10; clear gb10 gl10 HG10; obtain ⟨hx10_0, hf10_0⟩ := Kd.R_celln 0 HO332.out (a2 : Int) p10 q10; replace p10 := eq_true p10; replace q10 := eq_true q10; obtain ⟨hy23_, hz23_⟩ := Kd.R_celln 0 HO332.out (a2 : Int) (of_decide_eq_true (by first | (with_reducible assumption) | assumption)) (of_decide_eq_true (by first | (with_reducible assumption) | assumption)); have HP23 := Kd.R_putg HO332.out (a2 : Int) ((rd_L3 l0_0 a2).length : Int)) | ((with_reducible refine gate_store (t := 3) (p := 25) rfl ?_); refine store_event (t := 3) (p := 25) (v := ?vo_w24) (w1 := (w20.setCell ⟨go10, (a2 : Int).toNat, none⟩ (.int .i64 ((rd_L3 l0_0 a2).length : Int)))) ?hg ?ho ?hn ?hr ?_; (case ho => rfl); (case hg => rfl); (case hn => rfl); (case hr => first | (go_simp; done) | (go_simp; rfl)); intro w24 hw; have hg : w20.grownBy w24 (some go10) := (by rw [hw]; exact HP23.2); have hp_ : Kd.R (Kd.int .i64) 3 w24 w.heap.size (fun k_ => (w.heap.size ≤ k_)) (.slice (some ⟨go10, 0, none⟩) y330.length co10) y334 := (by rw [hw, Ny334.out]; exact HP23.1); clear HP23; have n0 := aM_ (Kd.V_afterv (v := (.slice (some ⟨go10, 0, none⟩) y330.length co10)) (v1 := (.slice (some ⟨go10, 0, none⟩) y330.length co10)) (ok := (fun k_ => (P0_0_ k_ ∨ w.heap.size ≤ k_) ∧ k_ ≠ gb325 ∧ k_ ≠ gb326)) (by (with_reducible repeat (first | apply Kd.V_alloc | apply Kd.V_drewN | apply Kd.V_drew)); exact HO0_0.out) hg (.inl rfl)); have n1 := aM_ (blk_grown (g := gb325) (o := .cells #[.slice (some ad333) l0_0.length c0_0] 24 (0, 0)) (by (with_reducible repeat (first | refine bN_ ?_ _ | refine bD_ ?_ | refine bA_ ?_ _)); exact BK325.out) hg (Kd.R_ne HO332.out BK325.out (by decide))); have n2 := aM_ (blk_grown (g := gb326) (o := .cells #[.slice none 0 0] 24 (0, 0)) (by (with_reducible repeat (first | refine bN_ ?_ _ | refine bD_ ?_ | refine bA_ ?_ _)); exact BK326.out) hg (Kd.R_ne HO332.out BK326.out (by decide))); have n3 := aM_ (hp_); have n4 := aM_ (Kd.V_afterv (v := (.slice (some ⟨go10, 0, none⟩) y330.length co10)) (v1 := (.slice (some ⟨go10, 0, none⟩) y330.length co10)) (ok := (fun k_ => (P0_0_ k_ ∨ w.heap.size ≤ k_) ∧ k_ ≠ gb325 ∧ k_ ≠ gb326)) (by (with_reducible repeat (first | apply Kd.V_alloc | apply Kd.V_drewN | apply Kd.V_drew)); exact HL333_0.out) hg (.inl rfl)); have n5 := aM_ ((by rw [hw]; exact below_set (HB.out) GB10.out : Below w.heap.size w w24)); clear HO0_0; clear BK325; clear BK326; clear HO332; clear HL333_0; clear HB; have HO0_0 := n0; have BK325 := n1; have BK326 := n2; have HO332 := n3; have HL333_0 := n4; have HB := n5; clear n0 n1 n2 n3 n4 n5; clear hg hw hp_) | ((with_reducible refine gate_dst (N := 27) rfl ?_); refine Kd.R_make (Kd.int .i64) _ 3 rfl (N := 27) rfl 31 _ _ rfl 24 rfl rfl Try.underlying31 (.int .i64 0) 8 info3 rfl (by decide) (by omega) 0 (ok := fun _ => True) (okp := fun _ => True) rfl (fun _ hk => hk) trivial (by omega) (by omega) (Below.refl _ _) (Nat.le_refl _) ?_; intro v336 w25 ho26 hb hg_ hnew_; clear hg_ hnew_; (first | rw [← Ny335.out] at ho26 | (simp only [Int.reduceToNat] at ho26; rw [← Ny335.out] at ho26)); have n0 := aM_ (Kd.V_elder' (by (with_reducible repeat (first | apply Kd.V_alloc | apply Kd.V_drewN | apply Kd.V_drew)); exact HO0_0.out) (Kd.R_base ho26) hb); have n1 := aM_ (Kd.R_elder' (by (with_reducible repeat (first | apply rA_ | apply rN_ | apply rD_)); exact HO332.out) (Kd.R_base ho26) hb); have n2 := aM_ (Kd.V_elder' (by (with_reducible repeat (first | apply Kd.V_alloc | apply Kd.V_drewN | apply Kd.V_drew)); exact HL333_0.out) (Kd.R_base ho26) hb); have n3 := aM_ (Kd.R_lower (Kd.R_new' (Kd.R_newM (M := fun k_ => (w.heap.size ≤ k_)) ho26 (below_size (gB_ HB.out)) (fun k_ h_ => h_)) (Kd.R_lt (by (with_reducible repeat (first | apply rA_ | apply rN_ | apply rD_)); exact HO332.out))) (below_size (gB_ HB.out))); have n4 := aM_ (nB_ BK325.out hb); have n5 := aM_ (nB_ BK326.out hb); have n6 := aM_ (sT_ HB.out hb); clear HO0_0; clear HO332; clear HL333_0; clear BK325; clear BK326; clear HB; have HO0_0 := n0; have HO332 := n1; have HL333_0 := n2; have HO337 := n3; have BK325 := n4; have BK326 := n5; have HB := n6; clear n0 n1 n2 n3 n4 n5 n6; clear hb ho26; obtain ⟨Ao27, co27, eo27⟩ := Kd.R_slice HO337.out; subst eo27) | ((with_reducible refine gate_dst (N := 13) rfl ?_); refine bX_ 13 (cs := #[.int .i64 0, .slice none 0 0]) (t := 43) ?_; intro gb338 hg w28 hbox hb; have n0 := aM_ (Kd.V_below (Kd.V_elderB (by (with_reducible repeat (first | apply Kd.V_alloc | apply Kd.V_drewN | apply Kd.V_drew)); exact HO0_0.out) gb338 (Nat.le_of_eq hg.symm)) hb); have n1 := aM_ (bR_ HO332.out hb); have n2 := aM_ (Kd.V_below (Kd.V_elderB (by (with_reducible repeat (first | apply Kd.V_alloc | apply Kd.V_drewN | apply Kd.V_drew)); exact HL333_0.out) gb338 (Nat.le_of_eq hg.symm)) hb); have n3 := aM_ (bR_ HO337.out hb); have n4 := aM_ (nB_ BK325.out hb); have n5 := aM_ (nB_ BK326.out hb); have n6 := aM_ (sT_ HB.out hb); have n7 := aM_ (hbox); have n8 := aM_ (sZ_ hg HB.out); have n9 := aM_ (sZ_ hg HB.out); have n10 := aM_ (nL_ hg BK325.out); have n11 := aM_ (nG_ hg BK325.out); have n12 := aM_ (nL_ hg BK326.out); have n13 := aM_ (nG_ hg BK326.out); clear HO0_0; clear HO332; clear HL333_0; clear HO337; clear BK325; clear BK326; clear HB; have HO0_0 := n0; have HO332 := n1; have HL333_0 := n2; have HO337 := n3; have BK325 := n4; have BK326 := n5; have HB := n6; have BK338 := n7; have GW338 := n8; have GE338 := n9; have NB325_338 := n10; have NB338_325 := n11; have NB326_338 := n12; have NB338_326 := n13; clear n0 n1 n2 n3 n4 n5 n6 n7 n8 n9 n10 n11 n12 n13; clear hb hbox hg; have hnb29 := NB338_325.out; have hnc29 := NB325_338.out; have hnb30 := NB338_326.out; have hnc30 := NB326_338.out; obtain ⟨hcz31_0, hcz31_1, hfz31_0, hfz31_1⟩ := bR2_ BK338.out))
         have n0 : Aside0 (Kd.V (Kd.slice 43 k43) 44 ((w28.setCell ⟨gb338, 0, none⟩ (.int .i64 a3)).setCell ⟨gb338, 1, none⟩ (.slice Ao27 y335.length co27)) w.heap.size (fun k_ => (P0_0_ k_ ∨ w.heap.size ≤ k_) ∧ some k_ ≠ (.slice (some ⟨go10, 0, none⟩) y330.length co10 : Value).ownBlock ∧ some k_ ≠ (.slice Ao27 y335.length co27 : Value).ownBlock ∧ k_ ≠ gb325 ∧ k_ ≠ gb326 ∧ k_ ≠ gb338) (.slice (some ad333) l0_0.length c0_0) l0_0) := ⟨by (with_reducible repeat (first | apply Kd.V_alloc | apply Kd.V_drewN | apply Kd.V_drew)); exact Kd.V_mono (Kd.V_far (p := ⟨gb338, 1, none⟩) (Kd.V_far (p := ⟨gb338, 0, none⟩) (Kd.V_mono HO0_0.out (fun k_ hk => (⟨hk, hk.2⟩ : _ ∧ k_ ≠ gb338))) (fun _ hk => hk.2) (.int .i64 a3)) (fun _ hk => hk.2) (.slice Ao27 y335.length co27)) (fun _ hk => ⟨hk.1.1.1.1.1, ⟨hk.1.1.1.2, ⟨hk.1.1.2, ⟨hk.1.1.1.1.2.1, ⟨hk.1.1.1.1.2.2, hk.1.2⟩⟩⟩⟩⟩)⟩
         have n1 : Aside0 (Kd.R (Kd.int .i64) 3 ((w28.setCell ⟨gb338, 0, none⟩ (.int .i64 a3)).setCell ⟨gb338, 1, none⟩ (.slice Ao27 y335.length co27)) w.heap.size (fun k_ => (w.heap.size ≤ k_) ∧ some k_ ≠ (.slice Ao27 y335.length co27 : Value).ownBlock) (.slice (some ⟨go10, 0, none⟩) y330.length co10) y334) := ⟨by (with_reducible repeat (first | apply rA_ | apply rN_ | apply rD_)); exact Kd.R_mono (Kd.R_far (p := ⟨gb338, 1, none⟩) (Kd.R_far (p := ⟨gb338, 0, none⟩) (Kd.R_types HO332.out BK338.out (by decide)) (fun _ hk => hk.2) (.int .i64 a3)) (fun _ hk => hk.2) (.slice Ao27 y335.length co27)) (fun _ hk => ⟨hk.1.1, hk.1.2⟩)⟩
         have n2 : Aside0 (Kd.V k43 43 ((w28.setCell ⟨gb338, 0, none⟩ (.int .i64 a3)).setCell ⟨gb338, 1, none⟩ (.slice Ao27 y335.length co27)) w.heap.size (fun k_ => (P0_0_ k_ ∨ w.heap.size ≤ k_) ∧ some k_ ≠ (.slice (some ⟨go10, 0, none⟩) y330.length co10 : Value).ownBlock ∧ some k_ ≠ (.slice Ao27 y335.length co27 : Value).ownBlock ∧ k_ ≠ gb325 ∧ k_ ≠ gb326 ∧ k_ ≠ gb338) (.slice A333_0 (rd_L3 l0_0 a2).length c333_0) (rd_L3 l0_0 a2)) := ⟨by (with_reducible repeat (first | apply Kd.V_alloc | apply Kd.V_drewN | apply Kd.V_drew)); exact Kd.V_mono (Kd.V_far (p := ⟨gb338, 1, none⟩) (Kd.V_far (p := ⟨gb338, 0, none⟩) (Kd.V_mono HL333_0.out (fun k_ hk => (⟨hk, hk.2⟩ : _ ∧ k_ ≠ gb338))) (fun _ hk => hk.2) (.int .i64 a3)) (fun _ hk => hk.2) (.slice Ao27 y335.length co27)) (fun _ hk => ⟨hk.1.1.1.1.1, ⟨hk.1.1.1.2, ⟨hk.1.1.2, ⟨hk.1.1.1.1.2.1, ⟨hk.1.1.1.1.2.2, hk.1.2⟩⟩⟩⟩⟩)⟩
         have n3 : Aside0 (Kd.R (Kd.int .i64) 3 ((w28.setCell ⟨gb338, 0, none⟩ (.int .i64 a3)).setCell ⟨gb338, 1, none⟩ (.slice Ao27 y335.length co27)) w.heap.size (fun k_ => (w.heap.size ≤ k_) ∧ some k_ ≠ (.slice (some ⟨go10, 0, none⟩) y330.length co10 : Value).ownBlock) (.slice Ao27 y335.length co27) y335) := ⟨by (with_reducible repeat (first | apply rA_ | apply rN_ | apply rD_)); exact Kd.R_mono (Kd.R_far (p := ⟨gb338, 1, none⟩) (Kd.R_far (p := ⟨gb338, 0, none⟩) (Kd.R_types HO337.out BK338.out (by decide)) (fun _ hk => hk.2) (.int .i64 a3)) (fun _ hk => hk.2) (.slice Ao27 y335.length co27)) (fun _ hk => ⟨hk.1.1.1, hk.1.2⟩)⟩
         have n4 : Aside0 (((w28.setCell ⟨gb338, 0, none⟩ (.int .i64 a3)).setCell ⟨gb338, 1, none⟩ (.slice Ao27 y335.length co27)).heap[gb325]? = some (.cells #[.slice (some ad333) l0_0.length c0_0] 24 (0, 0))) := ⟨by (with_reducible repeat (first | refine bN_ ?_ _ | refine bD_ ?_ | refine bA_ ?_ _)); refine blk_far ?_ NB325_338.out _; (with_reducible repeat (first | refine bN_ ?_ _ | refine bD_ ?_ | refine bA_ ?_ _)); refine blk_far ?_ NB325_338.out _; (with_reducible repeat (first | refine bN_ ?_ _ | refine bD_ ?_ | refine bA_ ?_ _)); exact BK325.out⟩
         have n5 : Aside0 (((w28.setCell ⟨gb338, 0, none⟩ (.int .i64 a3)).setCell ⟨gb338, 1, none⟩ (.slice Ao27 y335.length co27)).heap[gb326]? = some (.cells #[.slice none 0 0] 24 (0, 0))) := ⟨by (with_reducible repeat (first | refine bN_ ?_ _ | refine bD_ ?_ | refine bA_ ?_ _)); refine blk_far ?_ NB326_338.out _; (with_reducible repeat (first | refine bN_ ?_ _ | refine bD_ ?_ | refine bA_ ?_ _)); refine blk_far ?_ NB326_338.out _; (with_reducible repeat (first | refine bN_ ?_ _ | refine bD_ ?_ | refine bA_ ?_ _)); exact BK326.out⟩
         have n6 : Aside0 (((w28.setCell ⟨gb338, 0, none⟩ (.int .i64 a3)).setCell ⟨gb338, 1, none⟩ (.slice Ao27 y335.length co27)).heap[gb338]? = some (.cells #[.int .i64 a3, .slice Ao27 y335.length co27] 43 (0, 0))) := ⟨by (with_reducible repeat (first | refine bN_ ?_ _ | refine bD_ ?_ | refine bA_ ?_ _)); refine blk_put (cs := #[.int .i64 a3, .slice none 0 0]) ?_ 1 _ rfl; refine blk_put (cs := #[.int .i64 0, .slice none 0 0]) ?_ 0 _ rfl; (with_reducible repeat (first | refine bN_ ?_ _ | refine bD_ ?_ | refine bA_ ?_ _)); exact BK338.out⟩
         have n7 : Aside0 (Below w.heap.size w ((w28.setCell ⟨gb338, 0, none⟩ (.int .i64 a3)).setCell ⟨gb338, 1, none⟩ (.slice Ao27 y335.length co27))) := ⟨gW_ HB.out⟩
         (try clear HO0_0)
         (try clear HO332)
         (try clear HL333_0)
         (try clear HO337)
         (try clear BK325)
         (try clear BK326)
         (try clear BK338)
         (try clear HB)
         generalize ((w28.setCell ⟨gb338, 0, none⟩ (.int .i64 a3)).setCell ⟨gb338, 1, none⟩ (.slice Ao27 y335.length co27)) = w32 at n0 n1 n2 n3 n4 n5 n6 n7 ⊢
         have HO0_0 := n0
         have HO332 := n1
         have HL333_0 := n2
         have HO337 := n3
         have BK325 := n4
         have BK326 := n5
         have BK338 := n6
         have HB := n7
         clear n0 n1 n2 n3 n4 n5 n6 n7
         have n0 := aM_ (Kd.V_drew HO0_0.out)
         have n1 := aM_ (Kd.R_drew HO332.out)
         have n2 := aM_ (Kd.V_drew HL333_0.out)
         have n3 := aM_ (Kd.R_drew HO337.out)
         have n4 := aM_ (blk_drew BK325.out)
         have n5 := aM_ (blk_drew BK326.out)
         have n6 := aM_ (blk_drew BK338.out)
         have n7 := aM_ (below_drew1 HB.out)
         clear HO0_0
         clear HO332
         clear HL333_0
         clear HO337
         clear BK325
         clear BK326
         clear BK338
         clear HB
         have HO0_0 := n0
         have HO332 := n1
         have HL333_0 := n2
         have HO337 := n3
         have BK325 := n4
         have BK326 := n5
         have BK338 := n6
         have HB := n7
         clear n0 n1 n2 n3 n4 n5 n6 n7
         have p339 : 0 ≤ (a2 : Int) := of_decide_eq_true (by first | (with_reducible assumption) | assumption)
         have q339 : a2 < (y334.length : Int) := (by have h_ : (a2 : Int) < ((y330.length : Int) : Int) := of_decide_eq_true (by first | (with_reducible assumption) | assumption); first | (have e_ := (Kd.R_reads' HO332.out).1; omega) | simpa only [Ny334.out, List.length_set] using h_)
         have ql339 : ((a2 : Int) < ((y330.length : Int) : Int)) = True := eq_true (of_decide_eq_true (by first | (with_reducible assumption) | assumption))
         obtain ⟨ad339, e339, hx339_0⟩ := Kd.at_int (Kd.R_reads' HO332.out).2.2 a2 p339 q339
         obtain rfl : (⟨go10, 0, none⟩ : Addr) = ad339 := (by injection e339)
         (first | simp only [add_plain] at hx339_0 | simp only [add_at] at hx339_0 | simp only [Addr.add, Nat.zero_add] at hx339_0 | skip)
         replace p339 := eq_true p339
         replace q339 := eq_true q339
         have p13 : 0 ≤ (a2 : Int) := of_decide_eq_true (by first | (with_reducible assumption) | assumption)
         have q13 : (a2 : Int) < ((y335.length : Int) : Int) := of_decide_eq_true (by first | (with_reducible assumption) | assumption)
         obtain ⟨go13, co13, eo13, gb13, gl13, cl13, HG13⟩ := Kd.R_form HO337.out (by omega)
         (first | cases eo13 | (injection eo13 with ea_ en_ ec_; (first | subst ea_ | (injection ea_ with ea_; subst ea_)); subst ec_; clear en_))
         have GB13 := aM_ gb13
         have GG13 := aM_ HG13
         clear gb13 gl13 HG13
         obtain ⟨hx13_0, hf13_0⟩ := Kd.R_celln 0 HO337.out (a2 : Int) p13 q13
         replace p13 := eq_true p13
         replace q13 := eq_true q13
         have HP34 := Kd.R_putn HO337.out (a2 : Int) (rd y334 a2)
         rw [← Ny340.out] at HP34
         have HQ34 := aM_ HP34
         clear HP34
         refine start_ (n := 9) (S := fun w' => w'.cell? ⟨gb338, 0, none⟩ = some (.int .i64 a3) ∧ w'.cell? ⟨gb338, 1, none⟩ = some (.slice (some ⟨go13, 0, none⟩) y335.length co27) ∧ w'.cell? ⟨go10, (a2).toNat, none⟩ = some (.int .i64 (rd y334 a2))) (ds := [8]) #[false, false, false, false, false, false, false, false, false] (by kernel_rfl) rfl rfl ⟨(blk_cell BK338.out 0).trans rfl, (blk_cell BK338.out 1).trans rfl, hx339_0⟩ (fun hHeld => ?_); refine with_tabW spec_l6Store.tab4 spec_l6Store.bits4 (fun HT_ HW_ => ?_)
         generalize w32.drew = w33 at HO0_0 HO332 HL333_0 HO337 BK325 BK326 BK338 HB GG13 HQ34 hf13_0 hx13_0 hx339_0 hHeld ⊢
         refine pU_ 0 (some 29) (mk_ 9 1) ?_
         refine pU_ 2 (some 31) (mk_ 9 5) ?_
         refine pU_ 3 (some 32) (mk_ 9 13) ?_
         refine pU_ 4 (some 33) (mk_ 9 29) ?_
         refine pU_ 5 (some 34) (mk_ 9 61) ?_
         refine tK3_ 1 (some 30) (mk_ 9 63) ?_
         refine tK3_ 6 (some 35) (mk_ 9 127) ?_
         refine pU_ 7 (some 36) (mk_ 9 255) ?_
         refine last_ (i := 8) (N := none) #[true, true, true, true, true, true, true, true, true] rfl rfl (one_of HT_.out (by kernel_rfl)) (by decide) (fun K hK => ?_)
         refine skip_ (w1 := ?_) (by rfl) rfl ?_ ?_
         rotate_left
         ·go_simp
          rfl
         refine hK.out _ _ ?_
         clear hK K
         refine done_ (done_of HT_.out (by kernel_rfl)) ?_
         have n0 : Aside0 (Kd.V (Kd.slice 43 k43) 44 (w33.setCell ⟨go13, (a2 : Int).toNat, none⟩ (.int .i64 (rd y334 a2))) w.heap.size (fun k_ => (P0_0_ k_ ∨ w.heap.size ≤ k_) ∧ some k_ ≠ (.slice (some ⟨go10, 0, none⟩) y330.length co10 : Value).ownBlock ∧ some k_ ≠ (.slice (some ⟨go13, 0, none⟩) y335.length co27 : Value).ownBlock ∧ k_ ≠ gb325 ∧ k_ ≠ gb326 ∧ k_ ≠ gb338) (.slice (some ad333) l0_0.length c0_0) l0_0) := ⟨by (with_reducible repeat (first | apply Kd.V_alloc | apply Kd.V_drewN | apply Kd.V_drew)); exact Kd.V_mono (Kd.V_far (p := ⟨go13, (a2 : Int).toNat, none⟩) (Kd.V_mono HO0_0.out (fun k_ hk => (⟨hk, fun e_ => hk.2.2.1 (by rw [e_]; rfl)⟩ : _ ∧ k_ ≠ go13))) (fun _ hk => hk.2) (.int .i64 (rd y334 a2))) (fun _ hk => ⟨hk.1.1, ⟨hk.1.2.1, ⟨hk.1.2.2.1, ⟨hk.1.2.2.2.1, ⟨hk.1.2.2.2.2.1, hk.1.2.2.2.2.2⟩⟩⟩⟩⟩)⟩
         have n1 : Aside0 (Kd.R (Kd.int .i64) 3 (w33.setCell ⟨go13, (a2 : Int).toNat, none⟩ (.int .i64 (rd y334 a2))) w.heap.size (fun k_ => (w.heap.size ≤ k_) ∧ some k_ ≠ (.slice (some ⟨go13, 0, none⟩) y335.length co27 : Value).ownBlock) (.slice (some ⟨go10, 0, none⟩) y330.length co10) y334) := ⟨by (with_reducible repeat (first | apply rA_ | apply rN_ | apply rD_)); exact Kd.R_mono (Kd.R_far (p := ⟨go13, (a2 : Int).toNat, none⟩) (Kd.R_mono HO332.out (fun k_ hk => (⟨hk, fun e_ => hk.2 (by rw [e_]; rfl)⟩ : _ ∧ k_ ≠ go13))) (fun _ hk => hk.2) (.int .i64 (rd y334 a2))) (fun _ hk => ⟨hk.1.1, hk.1.2⟩)⟩
         have n2 : Aside0 (Kd.V k43 43 (w33.setCell ⟨go13, (a2 : Int).toNat, none⟩ (.int .i64 (rd y334 a2))) w.heap.size (fun k_ => (P0_0_ k_ ∨ w.heap.size ≤ k_) ∧ some k_ ≠ (.slice (some ⟨go10, 0, none⟩) y330.length co10 : Value).ownBlock ∧ some k_ ≠ (.slice (some ⟨go13, 0, none⟩) y335.length co27 : Value).ownBlock ∧ k_ ≠ gb325 ∧ k_ ≠ gb326 ∧ k_ ≠ gb338) (.slice A333_0 (rd_L3 l0_0 a2).length c333_0) (rd_L3 l0_0 a2)) := ⟨by (with_reducible repeat (first | apply Kd.V_alloc | apply Kd.V_drewN | apply Kd.V_drew)); exact Kd.V_mono (Kd.V_far (p := ⟨go13, (a2 : Int).toNat, none⟩) (Kd.V_mono HL333_0.out (fun k_ hk => (⟨hk, fun e_ => hk.2.2.1 (by rw [e_]; rfl)⟩ : _ ∧ k_ ≠ go13))) (fun _ hk => hk.2) (.int .i64 (rd y334 a2))) (fun _ hk => ⟨hk.1.1, ⟨hk.1.2.1, ⟨hk.1.2.2.1, ⟨hk.1.2.2.2.1, ⟨hk.1.2.2.2.2.1, hk.1.2.2.2.2.2⟩⟩⟩⟩⟩)⟩
         have n3 : Aside0 (Kd.R (Kd.int .i64) 3 (w33.setCell ⟨go13, (a2 : Int).toNat, none⟩ (.int .i64 (rd y334 a2))) w.heap.size (fun k_ => (w.heap.size ≤ k_) ∧ some k_ ≠ (.slice (some ⟨go10, 0, none⟩) y330.length co10 : Value).ownBlock) (.slice (some ⟨go13, 0, none⟩) y335.length co27) y340) := ⟨by (with_reducible repeat (first | apply rA_ | apply rN_ | apply rD_)); exact HQ34.out⟩
         have n4 : Aside0 ((w33.setCell ⟨go13, (a2 : Int).toNat, none⟩ (.int .i64 (rd y334 a2))).heap[gb325]? = some (.cells #[.slice (some ad333) l0_0.length c0_0] 24 (0, 0))) := ⟨by (with_reducible repeat (first | refine bN_ ?_ _ | refine bD_ ?_ | refine bA_ ?_ _)); refine blk_far ?_ (by have h_ := Kd.R_ne HO337.out BK325.out (by decide); intro e_; exact h_ (by rw [e_]; rfl)) _; (with_reducible repeat (first | refine bN_ ?_ _ | refine bD_ ?_ | refine bA_ ?_ _)); exact BK325.out⟩
         have n5 : Aside0 ((w33.setCell ⟨go13, (a2 : Int).toNat, none⟩ (.int .i64 (rd y334 a2))).heap[gb326]? = some (.cells #[.slice none 0 0] 24 (0, 0))) := ⟨by (with_reducible repeat (first | refine bN_ ?_ _ | refine bD_ ?_ | refine bA_ ?_ _)); refine blk_far ?_ (by have h_ := Kd.R_ne HO337.out BK326.out (by decide); intro e_; exact h_ (by rw [e_]; rfl)) _; (with_reducible repeat (first | refine bN_ ?_ _ | refine bD_ ?_ | refine bA_ ?_ _)); exact BK326.out⟩
         have n6 : Aside0 ((w33.setCell ⟨go13, (a2 : Int).toNat, none⟩ (.int .i64 (rd y334 a2))).heap[gb338]? = some (.cells #[.int .i64 a3, .slice (some ⟨go13, 0, none⟩) y335.length co27] 43 (0, 0))) := ⟨by (with_reducible repeat (first | refine bN_ ?_ _ | refine bD_ ?_ | refine bA_ ?_ _)); refine blk_far ?_ (by have h_ := Kd.R_ne HO337.out BK338.out (by decide); intro e_; exact h_ (by rw [e_]; rfl)) _; (with_reducible repeat (first | refine bN_ ?_ _ | refine bD_ ?_ | refine bA_ ?_ _)); exact BK338.out⟩
         have n7 : Aside0 (Below w.heap.size w (w33.setCell ⟨go13, (a2 : Int).toNat, none⟩ (.int .i64 (rd y334 a2)))) := ⟨by repeat (first | (with_reducible first | exact HB.out | apply hA_ | apply hN_ | apply hD_ | refine below_set ?_ GB13.out | refine below_set ?_ GE325.out | refine below_set ?_ GE326.out | refine below_set ?_ GE338.out) | exact HB.out)⟩
         (try clear HO0_0)
         (try clear HO332)
         (try clear HL333_0)
         (try clear HO337)
         (try clear BK325)
         (try clear BK326)
         (try clear BK338)
         (try clear HB)
         generalize (w33.setCell ⟨go13, (a2 : Int).toNat, none⟩ (.int .i64 (rd y334 a2))) = w35 at n0 n1 n2 n3 n4 n5 n6 n7 ⊢
         have HO0_0 := n0
         have HO332 := n1
         have HL333_0 := n2
         have HO337 := n3
         have BK325 := n4
         have BK326 := n5
         have BK338 := n6
         have HB := n7
         clear n0 n1 n2 n3 n4 n5 n6 n7
         try go_wp2_with (first | ((with_reducible refine gate_dst (N := 38) rfl ?_); refine Kd.R_lit (Kd.int .i64) _ 3 ?hg (N := 38) ?hd (xs := ([] : List Int)) (inner := []) (ok := fun _ => True) (okp := fun _ => True) ?hr ?hp (fun _ hk => hk) trivial (Below.refl _ _) (Nat.le_refl _) (by simp) ?_; (case hd => rfl); (case hg => rfl); (case hr => first | (go_simp; done) | (go_simp; rfl)); (case hp => exact (Reps.none _ _)); intro v342 w36 ho37 hb hg_ hnew_; clear hg_ hnew_; (first | rw [← Ny341.out] at ho37 | (simp only [Int.reduceToNat] at ho37; rw [← Ny341.out] at ho37)); have n0 := aM_ (Kd.V_elder' (by (with_reducible repeat (first | apply Kd.V_alloc | apply Kd.V_drewN | apply Kd.V_drew)); exact HO0_0.out) (Kd.R_base ho37) hb); have n1 := aM_ (Kd.R_elder' (by (with_reducible repeat (first | apply rA_ | apply rN_ | apply rD_)); exact HO332.out) (Kd.R_base ho37) hb); have n2 := aM_ (Kd.V_elder' (by (with_reducible repeat (first | apply Kd.V_alloc | apply Kd.V_drewN | apply Kd.V_drew)); exact HL333_0.out) (Kd.R_base ho37) hb); have n3 := aM_ (Kd.R_elder' (by (with_reducible repeat (first | apply rA_ | apply rN_ | apply rD_)); exact HO337.out) (Kd.R_base ho37) hb); have n4 := aM_ (Kd.R_lower (Kd.R_new' (Kd.R_new' (Kd.R_newM (M := fun k_ => (w.heap.size ≤ k_)) ho37 (below_size (gB_ HB.out)) (fun k_ h_ => h_)) (Kd.R_lt (by (with_reducible repeat (first | apply rA_ | apply rN_ | apply rD_)); exact HO332.out))) (Kd.R_lt (by (with_reducible repeat (first | apply rA_ | apply rN_ | apply rD_)); exact HO337.out))) (below_size (gB_ HB.out))); have n5 := aM_ (nB_ BK325.out hb); have n6 := aM_ (nB_ BK326.out hb); have n7 := aM_ (nB_ BK338.out hb); have n8 := aM_ (sT_ HB.out hb); clear HO0_0; clear HO332; clear HL333_0; clear HO337; clear BK325; clear BK326; clear BK338; clear HB; have HO0_0 := n0; have HO332 := n1; have HL333_0 := n2; have HO337 := n3; have HO343 := n4; have BK325 := n5; have BK326 := n6; have BK338 := n7; have HB := n8; clear n0 n1 n2 n3 n4 n5 n6 n7 n8; clear hb ho37) | ((with_reducible refine gate_builtin (b := .append) (xs := #[.tmp 38, .tmp 39]) rfl ?_); at_builtin; refine Kd.R_append_rows (Kd.int .i64) (w0 := w) w.heap.size rfl (.tmp 38) (.tmp 39) 31 3 (.int .i64 0) 8 rfl Try.underlying31 info3 rfl (by decide) (by omega) v342 y341 y334 _ _ _ (fun k_ => (w.heap.size ≤ k_) ∧ some k_ ≠ (.slice (some ⟨go10, 0, none⟩) y330.length co10 : Value).ownBlock ∧ some k_ ≠ (.slice (some ⟨go13, 0, none⟩) y335.length co27 : Value).ownBlock) (fun _ => False) rfl rfl ?aO ?aR (fun _ _ h => h) (fun _ h => h.elim) ?aF ?aB ?aS ?aL ?_; (case aR => rw [show y330.length = y334.length from (Kd.R_reads' HO332.out).1]; repeat (first | exact (Kd.R_reads' HO332.out).2.2 | (with_reducible refine Kd.C_alloc ?_ _) | (with_reducible refine Kd.C_drewN ?_ _) | (with_reducible refine Kd.C_drew ?_))); (case aB => exact (gB_ HB.out)); (case aF => exact (fun k_ hk => ⟨(Nat.le_trans (below_size (gB_ HB.out)) hk), Kd.fresh' (Kd.R_lt (by (with_reducible repeat (first | apply rA_ | apply rN_ | apply rD_)); exact HO332.out)) k_ hk, Kd.fresh' (Kd.R_lt (by (with_reducible repeat (first | apply rA_ | apply rN_ | apply rD_)); exact HO337.out)) k_ hk⟩)); (case aO => exact (by (with_reducible repeat (first | apply rA_ | apply rN_ | apply rD_)); exact Kd.R_mono HO343.out (fun _ hk => ⟨hk.1.1.1, ⟨hk.1.2, hk.2⟩⟩))); (case aS => exact (below_size (gB_ HB.out))); (case aL => have := LMc15.out; have hlx_ := (Kd.R_reads' HO332.out).1; omega); intro v345 w38 ho hb hg hat; rw [← Ny344.out] at ho; have n0 := aM_ (Kd.V_afterv (ok := (fun k_ => (P0_0_ k_ ∨ w.heap.size ≤ k_) ∧ some k_ ≠ (.slice (some ⟨go10, 0, none⟩) y330.length co10 : Value).ownBlock ∧ some k_ ≠ (.slice (some ⟨go13, 0, none⟩) y335.length co27 : Value).ownBlock ∧ k_ ≠ gb325 ∧ k_ ≠ gb326 ∧ k_ ≠ gb338)) (by (with_reducible repeat (first | apply Kd.V_alloc | apply Kd.V_drewN | apply Kd.V_drew)); exact HO0_0.out) hg hat); have n1 := aM_ (blk_grown (g := gb325) (o := .cells #[.slice (some ad333) l0_0.length c0_0] 24 (0, 0)) (by (with_reducible repeat (first | refine bN_ ?_ _ | refine bD_ ?_ | refine bA_ ?_ _)); exact BK325.out) hg (Kd.R_ne HO343.out BK325.out (by decide))); have n2 := aM_ (blk_grown (g := gb326) (o := .cells #[.slice none 0 0] 24 (0, 0)) (by (with_reducible repeat (first | refine bN_ ?_ _ | refine bD_ ?_ | refine bA_ ?_ _)); exact BK326.out) hg (Kd.R_ne HO343.out BK326.out (by decide))); have n3 := aM_ (Kd.R_after (ok := (fun k_ => (w.heap.size ≤ k_) ∧ some k_ ≠ (.slice (some ⟨go13, 0, none⟩) y335.length co27 : Value).ownBlock)) (by (with_reducible repeat (first | apply rA_ | apply rN_ | apply rD_)); exact HO332.out) hg hat); have n4 := aM_ (Kd.V_afterv (ok := (fun k_ => (P0_0_ k_ ∨ w.heap.size ≤ k_) ∧ some k_ ≠ (.slice (some ⟨go10, 0, none⟩) y330.length co10 : Value).ownBlock ∧ some k_ ≠ (.slice (some ⟨go13, 0, none⟩) y335.length co27 : Value).ownBlock ∧ k_ ≠ gb325 ∧ k_ ≠ gb326 ∧ k_ ≠ gb338)) (by (with_reducible repeat (first | apply Kd.V_alloc | apply Kd.V_drewN | apply Kd.V_drew)); exact HL333_0.out) hg hat); have n5 := aM_ (Kd.R_after (ok := (fun k_ => (w.heap.size ≤ k_) ∧ some k_ ≠ (.slice (some ⟨go10, 0, none⟩) y330.length co10 : Value).ownBlock)) (by (with_reducible repeat (first | apply rA_ | apply rN_ | apply rD_)); exact HO337.out) hg hat); have n6 := aM_ (blk_grown (g := gb338) (o := .cells #[.int .i64 a3, .slice (some ⟨go13, 0, none⟩) y335.length co27] 43 (0, 0)) (by (with_reducible repeat (first | refine bN_ ?_ _ | refine bD_ ?_ | refine bA_ ?_ _)); exact BK338.out) hg (Kd.R_ne HO343.out BK338.out (by decide))); have n7 := aM_ (hb); have n8 := aM_ (ho); clear HO0_0; clear BK325; clear BK326; clear HO332; clear HL333_0; clear HO337; clear BK338; clear HB; clear HO343; have HO0_0 := n0; have BK325 := n1; have BK326 := n2; have HO332 := n3; have HL333_0 := n4; have HO337 := n5; have BK338 := n6; have HB := n7; have HO346 := n8; clear n0 n1 n2 n3 n4 n5 n6 n7 n8; clear ho hb hg hat; obtain ⟨Ao39, co39, eo39⟩ := Kd.R_slice HO346.out; subst eo39; obtain ⟨hcz40_0, hcz40_1, hfz40_0, hfz40_1⟩ := bR2_ BK338.out))
         have n0 : Aside0 (Kd.V (Kd.slice 43 k43) 44 (w38.setCell ⟨gb338, 1, none⟩ (.slice Ao39 y344.length co39)) w.heap.size (fun k_ => (P0_0_ k_ ∨ w.heap.size ≤ k_) ∧ some k_ ≠ (.slice (some ⟨go10, 0, none⟩) y330.length co10 : Value).ownBlock ∧ some k_ ≠ (.slice (some ⟨go13, 0, none⟩) y335.length co27 : Value).ownBlock ∧ some k_ ≠ (.slice Ao39 y344.length co39 : Value).ownBlock ∧ k_ ≠ gb325 ∧ k_ ≠ gb326 ∧ k_ ≠ gb338) (.slice (some ad333) l0_0.length c0_0) l0_0) := ⟨by (with_reducible repeat (first | apply Kd.V_alloc | apply Kd.V_drewN | apply Kd.V_drew)); exact Kd.V_mono (Kd.V_far (p := ⟨gb338, 1, none⟩) (Kd.V_mono HO0_0.out (fun k_ hk => (⟨hk, hk.1.2.2.2.2.2⟩ : _ ∧ k_ ≠ gb338))) (fun _ hk => hk.2) (.slice Ao39 y344.length co39)) (fun _ hk => ⟨hk.1.1.1, ⟨hk.1.1.2.1, ⟨hk.1.1.2.2.1, ⟨hk.1.2, ⟨hk.1.1.2.2.2.1, ⟨hk.1.1.2.2.2.2.1, hk.1.1.2.2.2.2.2⟩⟩⟩⟩⟩⟩)⟩
         have n1 : Aside0 (Kd.R (Kd.int .i64) 3 (w38.setCell ⟨gb338, 1, none⟩ (.slice Ao39 y344.length co39)) w.heap.size (fun k_ => (w.heap.size ≤ k_) ∧ some k_ ≠ (.slice (some ⟨go13, 0, none⟩) y335.length co27 : Value).ownBlock ∧ some k_ ≠ (.slice Ao39 y344.length co39 : Value).ownBlock) (.slice (some ⟨go10, 0, none⟩) y330.length co10) y334) := ⟨by (with_reducible repeat (first | apply rA_ | apply rN_ | apply rD_)); exact Kd.R_mono (Kd.R_far (p := ⟨gb338, 1, none⟩) (Kd.R_types HO332.out BK338.out (by decide)) (fun _ hk => hk.2) (.slice Ao39 y344.length co39)) (fun _ hk => ⟨hk.1.1.1, ⟨hk.1.1.2, hk.1.2⟩⟩)⟩
         have n2 : Aside0 (Kd.V k43 43 (w38.setCell ⟨gb338, 1, none⟩ (.slice Ao39 y344.length co39)) w.heap.size (fun k_ => (P0_0_ k_ ∨ w.heap.size ≤ k_) ∧ some k_ ≠ (.slice (some ⟨go10, 0, none⟩) y330.length co10 : Value).ownBlock ∧ some k_ ≠ (.slice (some ⟨go13, 0, none⟩) y335.length co27 : Value).ownBlock ∧ some k_ ≠ (.slice Ao39 y344.length co39 : Value).ownBlock ∧ k_ ≠ gb325 ∧ k_ ≠ gb326 ∧ k_ ≠ gb338) (.slice A333_0 (rd_L3 l0_0 a2).length c333_0) (rd_L3 l0_0 a2)) := ⟨by (with_reducible repeat (first | apply Kd.V_alloc | apply Kd.V_drewN | apply Kd.V_drew)); exact Kd.V_mono (Kd.V_far (p := ⟨gb338, 1, none⟩) (Kd.V_mono HL333_0.out (fun k_ hk => (⟨hk, hk.1.2.2.2.2.2⟩ : _ ∧ k_ ≠ gb338))) (fun _ hk => hk.2) (.slice Ao39 y344.length co39)) (fun _ hk => ⟨hk.1.1.1, ⟨hk.1.1.2.1, ⟨hk.1.1.2.2.1, ⟨hk.1.2, ⟨hk.1.1.2.2.2.1, ⟨hk.1.1.2.2.2.2.1, hk.1.1.2.2.2.2.2⟩⟩⟩⟩⟩⟩)⟩
         have n3 : Aside0 (Kd.R (Kd.int .i64) 3 (w38.setCell ⟨gb338, 1, none⟩ (.slice Ao39 y344.length co39)) w.heap.size (fun k_ => (w.heap.size ≤ k_) ∧ some k_ ≠ (.slice (some ⟨go10, 0, none⟩) y330.length co10 : Value).ownBlock ∧ some k_ ≠ (.slice Ao39 y344.length co39 : Value).ownBlock) (.slice (some ⟨go13, 0, none⟩) y335.length co27) y340) := ⟨by (with_reducible repeat (first | apply rA_ | apply rN_ | apply rD_)); exact Kd.R_mono (Kd.R_far (p := ⟨gb338, 1, none⟩) (Kd.R_types HO337.out BK338.out (by decide)) (fun _ hk => hk.2) (.slice Ao39 y344.length co39)) (fun _ hk => ⟨hk.1.1.1, ⟨hk.1.1.2, hk.1.2⟩⟩)⟩
         have n4 : Aside0 (Kd.R (Kd.int .i64) 3 (w38.setCell ⟨gb338, 1, none⟩ (.slice Ao39 y344.length co39)) w.heap.size (fun k_ => (w.heap.size ≤ k_) ∧ some k_ ≠ (.slice (some ⟨go10, 0, none⟩) y330.length co10 : Value).ownBlock ∧ some k_ ≠ (.slice (some ⟨go13, 0, none⟩) y335.length co27 : Value).ownBlock) (.slice Ao39 y344.length co39) y344) := ⟨by (with_reducible repeat (first | apply rA_ | apply rN_ | apply rD_)); exact Kd.R_mono (Kd.R_far (p := ⟨gb338, 1, none⟩) (Kd.R_types HO346.out BK338.out (by decide)) (fun _ hk => hk.2) (.slice Ao39 y344.length co39)) (fun _ hk => ⟨hk.1.1, ⟨hk.1.2.1, hk.1.2.2⟩⟩)⟩
         have n5 : Aside0 ((w38.setCell ⟨gb338, 1, none⟩ (.slice Ao39 y344.length co39)).heap[gb325]? = some (.cells #[.slice (some ad333) l0_0.length c0_0] 24 (0, 0))) := ⟨by (with_reducible repeat (first | refine bN_ ?_ _ | refine bD_ ?_ | refine bA_ ?_ _)); refine blk_far ?_ NB325_338.out _; (with_reducible repeat (first | refine bN_ ?_ _ | refine bD_ ?_ | refine bA_ ?_ _)); exact BK325.out⟩
         have n6 : Aside0 ((w38.setCell ⟨gb338, 1, none⟩ (.slice Ao39 y344.length co39)).heap[gb326]? = some (.cells #[.slice none 0 0] 24 (0, 0))) := ⟨by (with_reducible repeat (first | refine bN_ ?_ _ | refine bD_ ?_ | refine bA_ ?_ _)); refine blk_far ?_ NB326_338.out _; (with_reducible repeat (first | refine bN_ ?_ _ | refine bD_ ?_ | refine bA_ ?_ _)); exact BK326.out⟩
         have n7 : Aside0 ((w38.setCell ⟨gb338, 1, none⟩ (.slice Ao39 y344.length co39)).heap[gb338]? = some (.cells #[.int .i64 a3, .slice Ao39 y344.length co39] 43 (0, 0))) := ⟨by (with_reducible repeat (first | refine bN_ ?_ _ | refine bD_ ?_ | refine bA_ ?_ _)); refine blk_put (cs := #[.int .i64 a3, .slice (some ⟨go13, 0, none⟩) y335.length co27]) ?_ 1 _ rfl; (with_reducible repeat (first | refine bN_ ?_ _ | refine bD_ ?_ | refine bA_ ?_ _)); exact BK338.out⟩
         have n8 : Aside0 (Below w.heap.size w (w38.setCell ⟨gb338, 1, none⟩ (.slice Ao39 y344.length co39))) := ⟨gW_ HB.out⟩
         (try clear HO0_0)
         (try clear HO332)
         (try clear HL333_0)
         (try clear HO337)
         (try clear HO346)
         (try clear BK325)
         (try clear BK326)
         (try clear BK338)
         (try clear HB)
         generalize (w38.setCell ⟨gb338, 1, none⟩ (.slice Ao39 y344.length co39)) = w41 at n0 n1 n2 n3 n4 n5 n6 n7 n8 ⊢
         have HO0_0 := n0
         have HO332 := n1
         have HL333_0 := n2
         have HO337 := n3
         have HO346 := n4
         have BK325 := n5
         have BK326 := n6
         have BK338 := n7
         have HB := n8
         clear n0 n1 n2 n3 n4 n5 n6 n7 n8
         have n0 := aM_ (Kd.V_drew HO0_0.out)
         have n1 := aM_ (Kd.R_drew HO332.out)
         have n2 := aM_ (Kd.V_drew HL333_0.out)
         have n3 := aM_ (Kd.R_drew HO337.out)
         have n4 := aM_ (Kd.R_drew HO346.out)
         have n5 := aM_ (blk_drew BK325.out)
         have n6 := aM_ (blk_drew BK326.out)
         have n7 := aM_ (blk_drew BK338.out)
         have n8 := aM_ (below_drew1 HB.out)
         clear HO0_0
         clear HO332
         clear HL333_0
         clear HO337
         clear HO346
         clear BK325
         clear BK326
         clear BK338
         clear HB
         have HO0_0 := n0
         have HO332 := n1
         have HL333_0 := n2
         have HO337 := n3
         have HO346 := n4
         have BK325 := n5
         have BK326 := n6
         have BK338 := n7
         have HB := n8
         clear n0 n1 n2 n3 n4 n5 n6 n7 n8
         have hbs_ := below_size HB.out
         have HSm := aM_ (Kd.S_old hS.out HB.out)
         have hp_ : 0 ≤ a2 := of_decide_eq_true c7b0
         have hq_ : a2 < (l0_0.length : Int) := of_decide_eq_true c8b0
         obtain ⟨gM, rfl⟩ := Kd.R_head (Kd.S_R HSm.out)
         obtain ⟨oki, Ae, ce, hSe, hcM, hoki, ⟨cellsM, hBM⟩, hback⟩ := S_push HSm.out a2 hp_ hq_
         have HSe := aM_ hSe
         have BKM := aM_ hBM
         have hkM := aM_ ((blk_cell hBM (a2).toNat).symm.trans hcM)
         have HBK := aM_ hback
         have HOK := aM_ hoki
         have HGM : Aside0 (gM < w.heap.size) := ⟨((Kd.S_R HSm.out).1 gM rfl).2⟩
         have HRW : Aside0 (∀ k, (Value.slice Ae (rd_L3 l0_0 a2).length ce).ownBlock = some k → P0_0_ k ∧ k < w.heap.size) := ⟨fun k hk => (hoki k ((Kd.S_R hSe).1 k hk)).1⟩
         clear hSe hBM hcM hback hoki hp_ hq_
         refine start_ (n := 13) (S := fun w' => w'.cell? ⟨gb325, 0, none⟩ = some (.slice (some ⟨gM, 0, none⟩) l0_0.length c0_0) ∧ w'.cell? ⟨gM, (a2).toNat, none⟩ = some (.slice Ae (rd_L3 l0_0 a2).length ce) ∧ w'.cell? ⟨gb338, 0, none⟩ = some (.int .i64 a3) ∧ w'.cell? ⟨gb338, 1, none⟩ = some (.slice Ao39 y344.length co39)) (ds := [12]) #[false, false, false, false, false, false, false, false, false, false, false, false, false] (by kernel_rfl) rfl rfl ⟨(blk_cell (BK325.out) 0).trans rfl, (blk_cell (BKM.out) _).trans hkM.out, (blk_cell (BK338.out) 0).trans rfl, (blk_cell (BK338.out) 1).trans rfl⟩ (fun hHeld => ?_)
         generalize w41.drew = w42 at HO0_0 HO332 HL333_0 HO337 HO346 BK325 BK326 BK338 HB HSm HSe BKM HBK hbs_ hHeld ⊢
         refine pU_ 0 (some 42) (mk_ 13 1) ?_
         refine pU_ 2 (some 44) (mk_ 13 5) ?_
         refine pU_ 3 (some 45) (mk_ 13 13) ?_
         refine pU_ 5 (some 47) (mk_ 13 45) ?_
         refine tK4_ 1 (some 43) (mk_ 13 47) ?_
         refine tK4_ 4 (some 46) (mk_ 13 63) ?_
         refine pU_ 6 (some 48) (mk_ 13 127) ?_
         refine tK4_ 7 (some 49) (mk_ 13 255) ?_
         refine tK4_ 8 (some 50) (mk_ 13 511) ?_
         refine oN_ 9 (some 51) (mk_ 13 1023) (fun K hK => ?_)
         refine value_ (w1 := ?_) (v := ?_) (by rfl) rfl ?_ ?_
         rotate_left 2
         ·go_simp
          constructor
          ·rfl
          ·rfl
         refine hK.out _ _ ⟨(blk_cell (blk_alloc BK325.out _) 0).trans rfl, (blk_cell (blk_alloc BKM.out _) _).trans hkM.out, (blk_cell (blk_alloc BK338.out _) 0).trans rfl, (blk_cell (blk_alloc BK338.out _) 1).trans rfl⟩ (fun hHeld => ?_)
         clear hK K
         refine norm_ (a' := ?_) ?_ ?_
         rotate_left
         ·show Act.put _ (some 51) _ = _
          simp only [pt_, pn_, sI_, s0_, s1_, i64_w, i32_w]
          rfl
         refine oN_ 10 (some 52) (mk_ 13 2047) (fun K hK => ?_)
         have hT1 := HO346.out.1
         have hT2 : ∀ k, (.slice Ao39 y344.length co39 : Value).ownBlock = some k → w.heap.size ≤ k := Kd.R_base HO346.out
         refine Kd.S_append_step k43 (w0 := w) b0 (by rfl) (.tmp 49) (.tmp 51) 44 43 (.agg #[(.int .i64 0), (.slice none 0 0)]) 32 rfl Try.underlying44 info43 rfl (by decide) (by omega) (.slice Ae (rd_L3 l0_0 a2).length ce) (rd_L3 l0_0 a2) (⟨a3, y344⟩ : S43) [.int .i64 a3, .slice Ao39 y344.length co39] (fun k_ => oki k_ ∨ (w.heap.size ≤ k_ ∧ some k_ ≠ (.slice (some ⟨go10, 0, none⟩) y330.length co10 : Value).ownBlock)) (fun k_ => some k_ = (.slice Ao39 y344.length co39 : Value).ownBlock) rfl rfl ?aP ?aK ?aF ?aO ?aB ?aS ?aL ?_
         (case aP => exact k43_mkM _ _ _ (⟨a3, y344⟩ : S43) (Kd.R_mono (Kd.R_tight rfl (Kd.R_lower HO346.out hb0w.out)) (fun _ h_ => h_)))
         (case aK => exact fun k hk => ⟨.inr ⟨hT2 k hk.symm, by have h1 := hT1 k hk.symm; first | exact h1.2.1 | exact h1.2 | exact h1.1 | exact h1.1.2 | exact h1⟩, fun e => absurd (hT2 k hk.symm) (Nat.not_le.2 (HRW.out k e.symm).2)⟩)
         (case aF => exact fun k hk => .inr ⟨Nat.le_trans hbs_ hk, fun e => Nat.not_le.2 (Kd.R_lt HO332.out k e.symm) hk⟩)
         (case aO => exact Kd.S_mono HSe.out (fun k hk => ⟨.inl hk, fun e => absurd (hT2 k e.symm) (Nat.not_le.2 (HOK.out k hk).1.2)⟩))
         (case aB => exact HB.out.mono hb0w.out)
         (case aS => exact Nat.le_trans hb0w.out hbs_)
         (case aL => have := LMcP.out; omega)
         intro vP wP ho hb hg hat
         rw [← NyP.out] at ho
         have hnb : ∀ {g t : Nat} {cs : Array Value}, w42.heap[g]? = some (.cells cs t (0, 0)) → t ≠ 43 → some g ≠ (Value.slice Ae (rd_L3 l0_0 a2).length ce).ownBlock := fun hb_ ht => Kd.S_ne HSe.out hb_ (Ne.symm ht)
         have HKP : Aside0 (Kept w wP P0_0_) := ⟨Kept.of_grown hg (Kept.of_below HB.out P0_0_) (fun k e => .inl (HRW.out k e).1)⟩
         have BK325n := aM_ (blk_grown BK325.out hg (hnb BK325.out (by decide)))
         have BK326n := aM_ (blk_grown BK326.out hg (hnb BK326.out (by decide)))
         have BKMn := aM_ (blk_grown BKM.out hg (hnb BKM.out (by decide)))
         have BK338n := aM_ (blk_grown BK338.out hg (fun e => absurd GE338.out (Nat.not_le.2 (HRW.out _ e.symm).2)))
         have HO332n := aM_ (Kd.R_mono (Kd.R_grown (Kd.R_bound HO332.out) hg (fun k hk e => absurd hk.2.1 (Nat.not_le.2 (HRW.out k e.symm).2))) (fun _ hk => hk.1))
         clear hT1 hT2 hnb
         clear BK325 BK326 BKM BK338 HO332 HB HSm
         have BK325 := BK325n
         have BK326 := BK326n
         have BKM := BKMn
         have BK338 := BK338n
         have HO332 := HO332n
         clear BK325n BK326n BKMn BK338n HO332n
         obtain ⟨An, cn, rfl⟩ := Kd.S_slice ho
         have HP := aM_ ho
         have HBP : Aside0 (Below b0 w wP) := ⟨hb⟩
         have HG := aM_ hg
         clear ho hb hg hat
         refine hK.out _ _ ⟨(blk_cell (BK325.out) 0).trans rfl, (blk_cell (BKM.out) _).trans hkM.out, (blk_cell (BK338.out) 0).trans rfl, (blk_cell (BK338.out) 1).trans rfl⟩ (fun hHeld => ?_)
         clear hK K
         refine norm_ (a' := ?_) ?_ ?_
         rotate_left
         ·show Act.put _ (some 52) _ = _
          simp only [pt_, pn_, sI_, s0_, s1_, i64_w, i32_w]
          rfl
         refine pU_ 11 (some 53) (mk_ 13 4095) ?_
         refine last_ (i := 12) (N := none) #[true, true, true, true, true, true, true, true, true, true, true, true, true] rfl rfl (by kernel_rfl) (by decide) (fun K hK => ?_)
         have hsM : wP.cell? ⟨gM, (a2).toNat, none⟩ = some (.slice Ae (rd_L3 l0_0 a2).length ce) := (blk_cell BKM.out _).trans hkM.out
         have hfM := blk_frozen BKM.out (a2).toNat
         refine skip_ (w1 := ?_) (by rfl) rfl ?_ ?_
         rotate_left
         ·go_simp
          rfl
         refine hK.out _ _ ?_
         clear hK K
         refine done_ (by kernel_rfl) ?_
         have HSn := aM_ (HBK.out wP (.slice An yP.length cn) yP (fun k_ => w.heap.size ≤ k_ ∧ some k_ ≠ (.slice (some ⟨go10, 0, none⟩) y330.length co10 : Value).ownBlock) HG.out HP.out (fun k hk => ⟨fun h => Nat.not_le.2 h.2 hk.1, fun e => absurd (e ▸ hk.1) (Nat.not_le.2 HGM.out)⟩))
         replace BK325 := aM_ (blk_far (p := ⟨gM, (a2).toNat, none⟩) BK325.out (by intro e_; have h_ := BK325.out; rw [show _ = gM from e_, BKM.out] at h_; simp at h_) (.slice An yP.length cn))
         replace BK326 := aM_ (blk_far (p := ⟨gM, (a2).toNat, none⟩) BK326.out (by intro e_; have h_ := BK326.out; rw [show _ = gM from e_, BKM.out] at h_; simp at h_) (.slice An yP.length cn))
         replace HO332 := aM_ (Kd.R_mono (Kd.R_far (p := ⟨gM, (a2).toNat, none⟩) (Kd.R_bound HO332.out) (fun k hk e => absurd hk.2.1 (Nat.not_le.2 (show k < w.heap.size from (show k = gM from e) ▸ HGM.out))) (.slice An yP.length cn)) (fun _ hk => hk.1))
         replace HKP := aM_ (HKP.out.setCell (p := ⟨gM, (a2).toNat, none⟩) (.inl ((Kd.S_R hS.out).1 gM rfl)) (.slice An yP.length cn))
         replace HBP : Aside0 (Below b0 w (wP.setCell ⟨gM, (a2).toNat, none⟩ (.slice An yP.length cn))) := ⟨HBP.out.setCell (Kd.S_base hS.out gM rfl) _⟩
         clear hsM hfM HG HP HBK HSe BKM hkM HOK HRW hHeld
         generalize (wP.setCell ⟨gM, (a2).toNat, none⟩ (.slice An yP.length cn)) = wQ at HSn HKP HBP BK325 BK326 HO332 ⊢
         have hcz43_0 : wQ.cell? ⟨gb325, 0, none⟩ = some (.slice (some ⟨gM, 0, none⟩) l0_0.length c0_0) := (blk_cell BK325.out 0).trans rfl
         have hfz43_0 := blk_frozen BK325.out 0
         have hcz44_0 : wQ.cell? ⟨gb326, 0, none⟩ = some (.slice none 0 0) := (blk_cell BK326.out 0).trans rfl
         have hfz44_0 := blk_frozen BK326.out 0
         try go_wp2
         refine bodyPost_ret (results_ct rfl _ _ gb326 24 #[.slice (some ⟨gM, 0, none⟩) l0_0.length c0_0] (0, 0) _ rfl (by (with_reducible repeat (first | refine bN_ ?_ _ | refine bD_ ?_ | refine bA_ ?_ _)); refine blk_put (cs := #[.slice none 0 0]) ?_ 0 _ rfl; exact rW_ BK326.out) Try.underlying24 rfl (by kernel_rfl)) rfl ?_
         exact ⟨_, _, by first | rfl | (simp [*]; done), Kd.S_mono (Kd.S_set HSn.out BK326.out (by decide) 0 _) (fun k hk => hk.elim (fun h => ⟨.inl h.1, fun e => absurd (Kd.R_base HO332.out k e.symm) (Nat.not_le.2 h.2)⟩) (fun h => ⟨.inr h.1, h.2⟩)), Kd.R_mono (Kd.R_far (p := ⟨gb326, 0, none⟩) (Kd.R_types HO332.out BK326.out (by decide)) (fun _ hk => hk.2) _) (fun _ hk => (by first | exact hk.1.1 | exact hk.1)), HBP.out.setCell (Nat.le_trans hb0w.out GE326.out) _, HKP.out.setCell (p := ⟨gb326, 0, none⟩) (.inr GE326.out) _⟩
        ·rw [if_neg c15] at H
         exact absurd H (by simp)
       ·replace c14 := Bool.eq_false_iff.mpr c14
        subst c14
        have H1 : (if (rd_L3 l0_0 a2).length < 4398046511104 then (some (l0_0.set (a2 : Int).toNat (rd_L3 l0_0 a2 ++ [(⟨a3, y340⟩ : S43)]), y334)) else (none)) = some (r1, r2) := by rw [if_neg (show ¬ (false = true) by decide)] at H; exact H
        clear H
        have H := H1
        clear H1
        by_cases cP : (rd_L3 l0_0 a2).length < 4398046511104
        case neg => rw [if_neg cP] at H; exact absurd H (by simp)
        rw [if_pos cP] at H
        have LMcP := aM_ cP
        clear cP
        obtain ⟨yP, hyP⟩ : ∃ y_ : List S43, y_ = rd_L3 l0_0 a2 ++ [(⟨a3, y340⟩ : S43)] := ⟨_, rfl⟩
        replace H : (some (l0_0.set (a2 : Int).toNat yP, y334)) = some (r1, r2) := by rw [hyP]; exact H
        have NyP := aM_ hyP
        clear hyP
        simp only [Option.some.injEq, Prod.mk.injEq] at H
        obtain ⟨rfl, rfl⟩ := H
        go_enter Try.func86, Try.ntmps86
        try go_wp2_with (first | ((with_reducible refine gate_dst (N := 5) rfl ?_); refine bX_ 5 (cs := #[.slice A0_0 l0_0.length c0_0]) (t := 24) ?_; intro gb325 hg w45 hbox hb; have n0 := aM_ (Kd.V_below (Kd.V_elderB (by (with_reducible repeat (first | apply Kd.V_alloc | apply Kd.V_drewN | apply Kd.V_drew)); exact HO0_0.out) gb325 (Nat.le_of_eq hg.symm)) hb); have n1 := aM_ (sT_ HB.out hb); have n2 := aM_ (hbox); have n3 := aM_ (sZ_ hg HB.out); have n4 := aM_ (sZ_ hg HB.out); clear HO0_0; clear HB; have HO0_0 := n0; have HB := n1; have BK325 := n2; have GW325 := n3; have GE325 := n4; clear n0 n1 n2 n3 n4; clear hb hbox hg) | ((with_reducible refine gate_dst (N := 10) rfl ?_); refine bX_ 10 (cs := #[.slice none 0 0]) (t := 24) ?_; intro gb326 hg w46 hbox hb; have n0 := aM_ (Kd.V_below (Kd.V_elderB (by (with_reducible repeat (first | apply Kd.V_alloc | apply Kd.V_drewN | apply Kd.V_drew)); exact HO0_0.out) gb326 (Nat.le_of_eq hg.symm)) hb); have n1 := aM_ (nB_ BK325.out hb); have n2 := aM_ (sT_ HB.out hb); have n3 := aM_ (hbox); have n4 := aM_ (sZ_ hg HB.out); have n5 := aM_ (sZ_ hg HB.out); have n6 := aM_ (nL_ hg BK325.out); have n7 := aM_ (nG_ hg BK325.out); clear HO0_0; clear BK325; clear HB; have HO0_0 := n0; have BK325 := n1; have HB := n2; have BK326 := n3; have GW326 := n4; have GE326 := n5; have NB325_326 := n6; have NB326_325 := n7; clear n0 n1 n2 n3 n4 n5 n6 n7; clear hb hbox hg) | ((with_reducible refine gate_dst (N := 14) rfl ?_); refine Kd.R_lit (Kd.int .i64) _ 3 ?hg (N := 14) ?hd (xs := ([] : List Int)) (inner := []) (ok := fun _ => True) (okp := fun _ => True) ?hr ?hp (fun _ hk => hk) trivial (Below.refl _ _) (Nat.le_refl _) (by simp) ?_; (case hd => rfl); (case hg => rfl); (case hr => first | (go_simp; done) | (go_simp; rfl)); (case hp => exact (Reps.none _ _)); intro v328 w47 ho48 hb hg_ hnew_; clear hg_ hnew_; (first | rw [← Ny327.out] at ho48 | (simp only [Int.reduceToNat] at ho48; rw [← Ny327.out] at ho48)); have n0 := aM_ (Kd.V_elder' (by (with_reducible repeat (first | apply Kd.V_alloc | apply Kd.V_drewN | apply Kd.V_drew)); exact HO0_0.out) (Kd.R_base ho48) hb); have n1 := aM_ (Kd.R_lower (Kd.R_newM (M := fun k_ => (w.heap.size ≤ k_)) ho48 (below_size (gB_ HB.out)) (fun k_ h_ => h_)) (below_size (gB_ HB.out))); have n2 := aM_ (nB_ BK325.out hb); have n3 := aM_ (nB_ BK326.out hb); have n4 := aM_ (sT_ HB.out hb); clear HO0_0; clear BK325; clear BK326; clear HB; have HO0_0 := n0; have HO329 := n1; have BK325 := n2; have BK326 := n3; have HB := n4; clear n0 n1 n2 n3 n4; clear hb ho48) | ((with_reducible refine gate_builtin (b := .append) (xs := #[.tmp 14, .tmp 15]) rfl ?_); at_builtin; refine Kd.R_append_rows (Kd.int .i64) (w0 := w) w.heap.size rfl (.tmp 14) (.tmp 15) 31 3 (.int .i64 0) 8 rfl Try.underlying31 info3 rfl (by decide) (by omega) v328 y327 l1 _ _ _ (fun k_ => (w.heap.size ≤ k_)) (fun _ => False) rfl rfl ?aO ?aR (fun _ _ h => h) (fun _ h => h.elim) ?aF ?aB ?aS ?aL ?_; (case aR => repeat (first | exact (Kd.C_below HR1.out HB.out) | (with_reducible refine Kd.C_alloc ?_ _) | (with_reducible refine Kd.C_drewN ?_ _) | (with_reducible refine Kd.C_drew ?_))); (case aB => exact (gB_ HB.out)); (case aF => exact (fun k_ hk => (Nat.le_trans (below_size (gB_ HB.out)) hk))); (case aO => exact (by (with_reducible repeat (first | apply rA_ | apply rN_ | apply rD_)); exact Kd.R_mono HO329.out (fun _ hk => hk.1))); (case aS => exact (below_size (gB_ HB.out))); (case aL => have := LMc6.out; omega); intro v331 w49 ho hb hg hat; rw [← Ny330.out] at ho; have n0 := aM_ (Kd.V_afterv (ok := (fun k_ => (P0_0_ k_ ∨ w.heap.size ≤ k_) ∧ k_ ≠ gb325 ∧ k_ ≠ gb326)) (by (with_reducible repeat (first | apply Kd.V_alloc | apply Kd.V_drewN | apply Kd.V_drew)); exact Kd.V_mono HO0_0.out (fun _ hk => ⟨⟨hk.1.1.1, ⟨hk.1.1.2, hk.1.2⟩⟩, hk.2⟩)) hg hat); have n1 := aM_ (blk_grown (g := gb325) (o := .cells #[.slice A0_0 l0_0.length c0_0] 24 (0, 0)) (by (with_reducible repeat (first | refine bN_ ?_ _ | refine bD_ ?_ | refine bA_ ?_ _)); exact BK325.out) hg (Kd.R_ne HO329.out BK325.out (by decide))); have n2 := aM_ (blk_grown (g := gb326) (o := .cells #[.slice none 0 0] 24 (0, 0)) (by (with_reducible repeat (first | refine bN_ ?_ _ | refine bD_ ?_ | refine bA_ ?_ _)); exact BK326.out) hg (Kd.R_ne HO329.out BK326.out (by decide))); have n3 := aM_ (hb); have n4 := aM_ (ho); clear HO0_0; clear BK325; clear BK326; clear HB; clear HO329; have HO0_0 := n0; have BK325 := n1; have BK326 := n2; have HB := n3; have HO332 := n4; clear n0 n1 n2 n3 n4; clear ho hb hg hat; have hnb50 := NB325_326.out; have hnc50 := NB326_325.out; have hcz51_0 : w49.cell? ⟨gb325, 0, none⟩ = some (.slice A0_0 l0_0.length c0_0) := (blk_cell BK325.out 0).trans rfl; have hfz51_0 := blk_frozen BK325.out 0; have p333 : 0 ≤ (a2 : Int) := of_decide_eq_true (by first | (with_reducible assumption) | assumption); have q333 : a2 < (l0_0.length : Int) := of_decide_eq_true (by first | (with_reducible assumption) | assumption); obtain ⟨ad333, A333_0, c333_0, e333, hx333_0, hl333_0, hi333_0⟩ := at_L3 (Kd.V_reads' HO0_0.out).2.2 a2 p333 q333; cases e333; obtain ⟨ce333, hce333, hMe333, hcc333⟩ := Kd.V_get HO0_0.out [] a2 p333 (by first | exact q333 | exact of_decide_eq_true (by first | (with_reducible assumption) | assumption) | (have e_ := (Kd.V_reads' HO0_0.out).1; omega)); obtain ⟨ua333_0, uc333_0, rfl, ul333_0, ge333_0⟩ := Kd.FK_slice_open hMe333; have hv333_0 := hcc333 0 _ rfl; rw [Nat.add_zero, show ((Kd.slice 43 k43)).sz = 1 from rfl, Nat.mul_one] at hv333_0; replace hv333_0 := Option.some.inj (hv333_0.symm.trans hx333_0); injection hv333_0 with hva_ hvn_ hvc_; rw [hva_] at ge333_0; rw [hvc_] at ul333_0; have HL333_0 := aM_ (show Kd.V k43 43 _ w.heap.size _ _ (rd_L3 l0_0 a2) from Kd.V_mk ul333_0 ge333_0); clear hva_ hvn_ hvc_ ge333_0 ul333_0; clear hcc333 hce333; have HR333_0 := aM_ hi333_0; have HC333_0 := aM_ hl333_0; clear hi333_0 hl333_0; replace p333 := eq_true p333; replace q333 := eq_true q333; have p10 : 0 ≤ (a2 : Int) := of_decide_eq_true (by first | (with_reducible assumption) | assumption); have q10 : (a2 : Int) < ((y330.length : Int) : Int) := of_decide_eq_true (by first | (with_reducible assumption) | assumption); obtain ⟨go10, co10, eo10, gb10, gl10, cl10, HG10⟩ := Kd.R_form HO332.out (by omega); (first | cases eo10 | (injection eo10 with ea_ en_ ec_; (first | subst ea_ | (injection ea_ with ea_; subst ea_)); subst ec_; clear en_)); have GB10 := aM_ gb10; have GG10 := aM_ HG10; clear gb10 gl10 HG10; obtain ⟨hx10_0, hf10_0⟩ := Kd.R_celln 0 HO332.out (a2 : Int) p10 q10; replace p10 := eq_true p10; replace q10 := eq_true q10; obtain ⟨hy52_, hz52_⟩ := Kd.R_celln 0 HO332.out (a2 : Int) (of_decide_eq_true (by first | (with_reducible assumption) | assumption)) (of_decide_eq_true (by first | (with_reducible assumption) | assumption)); have HP52 := Kd.R_putg HO332.out (a2 : Int) ((rd_L3 l0_0 a2).length : Int)) | ((with_reducible refine gate_store (t := 3) (p := 25) rfl ?_); refine store_event (t := 3) (p := 25) (v := ?vo_w53) (w1 := (w49.setCell ⟨go10, (a2 : Int).toNat, none⟩ (.int .i64 ((rd_L3 l0_0 a2).length : Int)))) ?hg ?ho ?hn ?hr ?_; (case ho => rfl); (case hg => rfl); (case hn => rfl); (case hr => first | (go_simp; done) | (go_simp; rfl)); intro w53 hw; have hg : w49.grownBy w53 (some go10) := (by rw [hw]; exact HP52.2); have hp_ : Kd.R (Kd.int .i64) 3 w53 w.heap.size (fun k_ => (w.heap.size ≤ k_)) (.slice (some ⟨go10, 0, none⟩) y330.length co10) y334 := (by rw [hw, Ny334.out]; exact HP52.1); clear HP52; have n0 := aM_ (Kd.V_afterv (v := (.slice (some ⟨go10, 0, none⟩) y330.length co10)) (v1 := (.slice (some ⟨go10, 0, none⟩) y330.length co10)) (ok := (fun k_ => (P0_0_ k_ ∨ w.heap.size ≤ k_) ∧ k_ ≠ gb325 ∧ k_ ≠ gb326)) (by (with_reducible repeat (first | apply Kd.V_alloc | apply Kd.V_drewN | apply Kd.V_drew)); exact HO0_0.out) hg (.inl rfl)); have n1 := aM_ (blk_grown (g := gb325) (o := .cells #[.slice (some ad333) l0_0.length c0_0] 24 (0, 0)) (by (with_reducible repeat (first | refine bN_ ?_ _ | refine bD_ ?_ | refine bA_ ?_ _)); exact BK325.out) hg (Kd.R_ne HO332.out BK325.out (by decide))); have n2 := aM_ (blk_grown (g := gb326) (o := .cells #[.slice none 0 0] 24 (0, 0)) (by (with_reducible repeat (first | refine bN_ ?_ _ | refine bD_ ?_ | refine bA_ ?_ _)); exact BK326.out) hg (Kd.R_ne HO332.out BK326.out (by decide))); have n3 := aM_ (hp_); have n4 := aM_ (Kd.V_afterv (v := (.slice (some ⟨go10, 0, none⟩) y330.length co10)) (v1 := (.slice (some ⟨go10, 0, none⟩) y330.length co10)) (ok := (fun k_ => (P0_0_ k_ ∨ w.heap.size ≤ k_) ∧ k_ ≠ gb325 ∧ k_ ≠ gb326)) (by (with_reducible repeat (first | apply Kd.V_alloc | apply Kd.V_drewN | apply Kd.V_drew)); exact HL333_0.out) hg (.inl rfl)); have n5 := aM_ ((by rw [hw]; exact below_set (HB.out) GB10.out : Below w.heap.size w w53)); clear HO0_0; clear BK325; clear BK326; clear HO332; clear HL333_0; clear HB; have HO0_0 := n0; have BK325 := n1; have BK326 := n2; have HO332 := n3; have HL333_0 := n4; have HB := n5; clear n0 n1 n2 n3 n4 n5; clear hg hw hp_) | ((with_reducible refine gate_dst (N := 27) rfl ?_); refine Kd.R_make (Kd.int .i64) _ 3 rfl (N := 27) rfl 31 _ _ rfl 24 rfl rfl Try.underlying31 (.int .i64 0) 8 info3 rfl (by decide) (by omega) 0 (ok := fun _ => True) (okp := fun _ => True) rfl (fun _ hk => hk) trivial (by omega) (by omega) (Below.refl _ _) (Nat.le_refl _) ?_; intro v336 w54 ho55 hb hg_ hnew_; clear hg_ hnew_; (first | rw [← Ny335.out] at ho55 | (simp only [Int.reduceToNat] at ho55; rw [← Ny335.out] at ho55)); have n0 := aM_ (Kd.V_elder' (by (with_reducible repeat (first | apply Kd.V_alloc | apply Kd.V_drewN | apply Kd.V_drew)); exact HO0_0.out) (Kd.R_base ho55) hb); have n1 := aM_ (Kd.R_elder' (by (with_reducible repeat (first | apply rA_ | apply rN_ | apply rD_)); exact HO332.out) (Kd.R_base ho55) hb); have n2 := aM_ (Kd.V_elder' (by (with_reducible repeat (first | apply Kd.V_alloc | apply Kd.V_drewN | apply Kd.V_drew)); exact HL333_0.out) (Kd.R_base ho55) hb); have n3 := aM_ (Kd.R_lower (Kd.R_new' (Kd.R_newM (M := fun k_ => (w.heap.size ≤ k_)) ho55 (below_size (gB_ HB.out)) (fun k_ h_ => h_)) (Kd.R_lt (by (with_reducible repeat (first | apply rA_ | apply rN_ | apply rD_)); exact HO332.out))) (below_size (gB_ HB.out))); have n4 := aM_ (nB_ BK325.out hb); have n5 := aM_ (nB_ BK326.out hb); have n6 := aM_ (sT_ HB.out hb); clear HO0_0; clear HO332; clear HL333_0; clear BK325; clear BK326; clear HB; have HO0_0 := n0; have HO332 := n1; have HL333_0 := n2; have HO337 := n3; have BK325 := n4; have BK326 := n5; have HB := n6; clear n0 n1 n2 n3 n4 n5 n6; clear hb ho55; obtain ⟨Ao56, co56, eo56⟩ := Kd.R_slice HO337.out; subst eo56) | ((with_reducible refine gate_dst (N := 13) rfl ?_); refine bX_ 13 (cs := #[.int .i64 0, .slice none 0 0]) (t := 43) ?_; intro gb338 hg w57 hbox hb; have n0 := aM_ (Kd.V_below (Kd.V_elderB (by (with_reducible repeat (first | apply Kd.V_alloc | apply Kd.V_drewN | apply Kd.V_drew)); exact HO0_0.out) gb338 (Nat.le_of_eq hg.symm)) hb); have n1 := aM_ (bR_ HO332.out hb); have n2 := aM_ (Kd.V_below (Kd.V_elderB (by (with_reducible repeat (first | apply Kd.V_alloc | apply Kd.V_drewN | apply Kd.V_drew)); exact HL333_0.out) gb338 (Nat.le_of_eq hg.symm)) hb); have n3 := aM_ (bR_ HO337.out hb); have n4 := aM_ (nB_ BK325.out hb); have n5 := aM_ (nB_ BK326.out hb); have n6 := aM_ (sT_ HB.out hb); have n7 := aM_ (hbox); have n8 := aM_ (sZ_ hg HB.out); have n9 := aM_ (sZ_ hg HB.out); have n10 := aM_ (nL_ hg BK325.out); have n11 := aM_ (nG_ hg BK325.out); have n12 := aM_ (nL_ hg BK326.out); have n13 := aM_ (nG_ hg BK326.out); clear HO0_0; clear HO332; clear HL333_0; clear HO337; clear BK325; clear BK326; clear HB; have HO0_0 := n0; have HO332 := n1; have HL333_0 := n2; have HO337 := n3; have BK325 := n4; have BK326 := n5; have HB := n6; have BK338 := n7; have GW338 := n8; have GE338 := n9; have NB325_338 := n10; have NB338_325 := n11; have NB326_338 := n12; have NB338_326 := n13; clear n0 n1 n2 n3 n4 n5 n6 n7 n8 n9 n10 n11 n12 n13; clear hb hbox hg; have hnb58 := NB338_325.out; have hnc58 := NB325_338.out; have hnb59 := NB338_326.out; have hnc59 := NB326_338.out; obtain ⟨hcz60_0, hcz60_1, hfz60_0, hfz60_1⟩ := bR2_ BK338.out))
        have n0 : Aside0 (Kd.V (Kd.slice 43 k43) 44 ((w57.setCell ⟨gb338, 0, none⟩ (.int .i64 a3)).setCell ⟨gb338, 1, none⟩ (.slice Ao56 y335.length co56)) w.heap.size (fun k_ => (P0_0_ k_ ∨ w.heap.size ≤ k_) ∧ some k_ ≠ (.slice (some ⟨go10, 0, none⟩) y330.length co10 : Value).ownBlock ∧ some k_ ≠ (.slice Ao56 y335.length co56 : Value).ownBlock ∧ k_ ≠ gb325 ∧ k_ ≠ gb326 ∧ k_ ≠ gb338) (.slice (some ad333) l0_0.length c0_0) l0_0) := ⟨by (with_reducible repeat (first | apply Kd.V_alloc | apply Kd.V_drewN | apply Kd.V_drew)); exact Kd.V_mono (Kd.V_far (p := ⟨gb338, 1, none⟩) (Kd.V_far (p := ⟨gb338, 0, none⟩) (Kd.V_mono HO0_0.out (fun k_ hk => (⟨hk, hk.2⟩ : _ ∧ k_ ≠ gb338))) (fun _ hk => hk.2) (.int .i64 a3)) (fun _ hk => hk.2) (.slice Ao56 y335.length co56)) (fun _ hk => ⟨hk.1.1.1.1.1, ⟨hk.1.1.1.2, ⟨hk.1.1.2, ⟨hk.1.1.1.1.2.1, ⟨hk.1.1.1.1.2.2, hk.1.2⟩⟩⟩⟩⟩)⟩
        have n1 : Aside0 (Kd.R (Kd.int .i64) 3 ((w57.setCell ⟨gb338, 0, none⟩ (.int .i64 a3)).setCell ⟨gb338, 1, none⟩ (.slice Ao56 y335.length co56)) w.heap.size (fun k_ => (w.heap.size ≤ k_) ∧ some k_ ≠ (.slice Ao56 y335.length co56 : Value).ownBlock) (.slice (some ⟨go10, 0, none⟩) y330.length co10) y334) := ⟨by (with_reducible repeat (first | apply rA_ | apply rN_ | apply rD_)); exact Kd.R_mono (Kd.R_far (p := ⟨gb338, 1, none⟩) (Kd.R_far (p := ⟨gb338, 0, none⟩) (Kd.R_types HO332.out BK338.out (by decide)) (fun _ hk => hk.2) (.int .i64 a3)) (fun _ hk => hk.2) (.slice Ao56 y335.length co56)) (fun _ hk => ⟨hk.1.1, hk.1.2⟩)⟩
        have n2 : Aside0 (Kd.V k43 43 ((w57.setCell ⟨gb338, 0, none⟩ (.int .i64 a3)).setCell ⟨gb338, 1, none⟩ (.slice Ao56 y335.length co56)) w.heap.size (fun k_ => (P0_0_ k_ ∨ w.heap.size ≤ k_) ∧ some k_ ≠ (.slice (some ⟨go10, 0, none⟩) y330.length co10 : Value).ownBlock ∧ some k_ ≠ (.slice Ao56 y335.length co56 : Value).ownBlock ∧ k_ ≠ gb325 ∧ k_ ≠ gb326 ∧ k_ ≠ gb338) (.slice A333_0 (rd_L3 l0_0 a2).length c333_0) (rd_L3 l0_0 a2)) := ⟨by (with_reducible repeat (first | apply Kd.V_alloc | apply Kd.V_drewN | apply Kd.V_drew)); exact Kd.V_mono (Kd.V_far (p := ⟨gb338, 1, none⟩) (Kd.V_far (p := ⟨gb338, 0, none⟩) (Kd.V_mono HL333_0.out (fun k_ hk => (⟨hk, hk.2⟩ : _ ∧ k_ ≠ gb338))) (fun _ hk => hk.2) (.int .i64 a3)) (fun _ hk => hk.2) (.slice Ao56 y335.length co56)) (fun _ hk => ⟨hk.1.1.1.1.1, ⟨hk.1.1.1.2, ⟨hk.1.1.2, ⟨hk.1.1.1.1.2.1, ⟨hk.1.1.1.1.2.2, hk.1.2⟩⟩⟩⟩⟩)⟩
        have n3 : Aside0 (Kd.R (Kd.int .i64) 3 ((w57.setCell ⟨gb338, 0, none⟩ (.int .i64 a3)).setCell ⟨gb338, 1, none⟩ (.slice Ao56 y335.length co56)) w.heap.size (fun k_ => (w.heap.size ≤ k_) ∧ some k_ ≠ (.slice (some ⟨go10, 0, none⟩) y330.length co10 : Value).ownBlock) (.slice Ao56 y335.length co56) y335) := ⟨by (with_reducible repeat (first | apply rA_ | apply rN_ | apply rD_)); exact Kd.R_mono (Kd.R_far (p := ⟨gb338, 1, none⟩) (Kd.R_far (p := ⟨gb338, 0, none⟩) (Kd.R_types HO337.out BK338.out (by decide)) (fun _ hk => hk.2) (.int .i64 a3)) (fun _ hk => hk.2) (.slice Ao56 y335.length co56)) (fun _ hk => ⟨hk.1.1.1, hk.1.2⟩)⟩
        have n4 : Aside0 (((w57.setCell ⟨gb338, 0, none⟩ (.int .i64 a3)).setCell ⟨gb338, 1, none⟩ (.slice Ao56 y335.length co56)).heap[gb325]? = some (.cells #[.slice (some ad333) l0_0.length c0_0] 24 (0, 0))) := ⟨by (with_reducible repeat (first | refine bN_ ?_ _ | refine bD_ ?_ | refine bA_ ?_ _)); refine blk_far ?_ NB325_338.out _; (with_reducible repeat (first | refine bN_ ?_ _ | refine bD_ ?_ | refine bA_ ?_ _)); refine blk_far ?_ NB325_338.out _; (with_reducible repeat (first | refine bN_ ?_ _ | refine bD_ ?_ | refine bA_ ?_ _)); exact BK325.out⟩
        have n5 : Aside0 (((w57.setCell ⟨gb338, 0, none⟩ (.int .i64 a3)).setCell ⟨gb338, 1, none⟩ (.slice Ao56 y335.length co56)).heap[gb326]? = some (.cells #[.slice none 0 0] 24 (0, 0))) := ⟨by (with_reducible repeat (first | refine bN_ ?_ _ | refine bD_ ?_ | refine bA_ ?_ _)); refine blk_far ?_ NB326_338.out _; (with_reducible repeat (first | refine bN_ ?_ _ | refine bD_ ?_ | refine bA_ ?_ _)); refine blk_far ?_ NB326_338.out _; (with_reducible repeat (first | refine bN_ ?_ _ | refine bD_ ?_ | refine bA_ ?_ _)); exact BK326.out⟩
        have n6 : Aside0 (((w57.setCell ⟨gb338, 0, none⟩ (.int .i64 a3)).setCell ⟨gb338, 1, none⟩ (.slice Ao56 y335.length co56)).heap[gb338]? = some (.cells #[.int .i64 a3, .slice Ao56 y335.length co56] 43 (0, 0))) := ⟨by (with_reducible repeat (first | refine bN_ ?_ _ | refine bD_ ?_ | refine bA_ ?_ _)); refine blk_put (cs := #[.int .i64 a3, .slice none 0 0]) ?_ 1 _ rfl; refine blk_put (cs := #[.int .i64 0, .slice none 0 0]) ?_ 0 _ rfl; (with_reducible repeat (first | refine bN_ ?_ _ | refine bD_ ?_ | refine bA_ ?_ _)); exact BK338.out⟩
        have n7 : Aside0 (Below w.heap.size w ((w57.setCell ⟨gb338, 0, none⟩ (.int .i64 a3)).setCell ⟨gb338, 1, none⟩ (.slice Ao56 y335.length co56))) := ⟨gW_ HB.out⟩
        (try clear HO0_0)
        (try clear HO332)
        (try clear HL333_0)
        (try clear HO337)
        (try clear BK325)
        (try clear BK326)
        (try clear BK338)
        (try clear HB)
        generalize ((w57.setCell ⟨gb338, 0, none⟩ (.int .i64 a3)).setCell ⟨gb338, 1, none⟩ (.slice Ao56 y335.length co56)) = w61 at n0 n1 n2 n3 n4 n5 n6 n7 ⊢
        have HO0_0 := n0
        have HO332 := n1
        have HL333_0 := n2
        have HO337 := n3
        have BK325 := n4
        have BK326 := n5
        have BK338 := n6
        have HB := n7
        clear n0 n1 n2 n3 n4 n5 n6 n7
        have n0 := aM_ (Kd.V_drew HO0_0.out)
        have n1 := aM_ (Kd.R_drew HO332.out)
        have n2 := aM_ (Kd.V_drew HL333_0.out)
        have n3 := aM_ (Kd.R_drew HO337.out)
        have n4 := aM_ (blk_drew BK325.out)
        have n5 := aM_ (blk_drew BK326.out)
        have n6 := aM_ (blk_drew BK338.out)
        have n7 := aM_ (below_drew1 HB.out)
        clear HO0_0
        clear HO332
        clear HL333_0
        clear HO337
        clear BK325
        clear BK326
        clear BK338
        clear HB
        have HO0_0 := n0
        have HO332 := n1
        have HL333_0 := n2
        have HO337 := n3
        have BK325 := n4
        have BK326 := n5
        have BK338 := n6
        have HB := n7
        clear n0 n1 n2 n3 n4 n5 n6 n7
        have p339 : 0 ≤ (a2 : Int) := of_decide_eq_true (by first | (with_reducible assumption) | assumption)
        have q339 : a2 < (y334.length : Int) := (by have h_ : (a2 : Int) < ((y330.length : Int) : Int) := of_decide_eq_true (by first | (with_reducible assumption) | assumption); first | (have e_ := (Kd.R_reads' HO332.out).1; omega) | simpa only [Ny334.out, List.length_set] using h_)
        have ql339 : ((a2 : Int) < ((y330.length : Int) : Int)) = True := eq_true (of_decide_eq_true (by first | (with_reducible assumption) | assumption))
        obtain ⟨ad339, e339, hx339_0⟩ := Kd.at_int (Kd.R_reads' HO332.out).2.2 a2 p339 q339
        obtain rfl : (⟨go10, 0, none⟩ : Addr) = ad339 := (by injection e339)
        (first | simp only [add_plain] at hx339_0 | simp only [add_at] at hx339_0 | simp only [Addr.add, Nat.zero_add] at hx339_0 | skip)
        replace p339 := eq_true p339
        replace q339 := eq_true q339
        have p13 : 0 ≤ (a2 : Int) := of_decide_eq_true (by first | (with_reducible assumption) | assumption)
        have q13 : (a2 : Int) < ((y335.length : Int) : Int) := of_decide_eq_true (by first | (with_reducible assumption) | assumption)
        obtain ⟨go13, co13, eo13, gb13, gl13, cl13, HG13⟩ := Kd.R_form HO337.out (by omega)
        (first | cases eo13 | (injection eo13 with ea_ en_ ec_; (first | subst ea_ | (injection ea_ with ea_; subst ea_)); subst ec_; clear en_))
        have GB13 := aM_ gb13
        have GG13 := aM_ HG13
        clear gb13 gl13 HG13
        obtain ⟨hx13_0, hf13_0⟩ := Kd.R_celln 0 HO337.out (a2 : Int) p13 q13
        replace p13 := eq_true p13
        replace q13 := eq_true q13
        have HP63 := Kd.R_putn HO337.out (a2 : Int) (rd y334 a2)
        rw [← Ny340.out] at HP63
        have HQ63 := aM_ HP63
        clear HP63
        refine start_ (n := 9) (S := fun w' => w'.cell? ⟨gb338, 0, none⟩ = some (.int .i64 a3) ∧ w'.cell? ⟨gb338, 1, none⟩ = some (.slice (some ⟨go13, 0, none⟩) y335.length co56) ∧ w'.cell? ⟨go10, (a2).toNat, none⟩ = some (.int .i64 (rd y334 a2))) (ds := [8]) #[false, false, false, false, false, false, false, false, false] (by kernel_rfl) rfl rfl ⟨(blk_cell BK338.out 0).trans rfl, (blk_cell BK338.out 1).trans rfl, hx339_0⟩ (fun hHeld => ?_); refine with_tabW spec_l6Store.tab4 spec_l6Store.bits4 (fun HT_ HW_ => ?_)
        generalize w61.drew = w62 at HO0_0 HO332 HL333_0 HO337 BK325 BK326 BK338 HB GG13 HQ63 hf13_0 hx13_0 hx339_0 hHeld ⊢
        refine pU_ 0 (some 29) (mk_ 9 1) ?_
        refine pU_ 2 (some 31) (mk_ 9 5) ?_
        refine pU_ 3 (some 32) (mk_ 9 13) ?_
        refine pU_ 4 (some 33) (mk_ 9 29) ?_
        refine pU_ 5 (some 34) (mk_ 9 61) ?_
        refine tK3_ 1 (some 30) (mk_ 9 63) ?_
        refine tK3_ 6 (some 35) (mk_ 9 127) ?_
        refine pU_ 7 (some 36) (mk_ 9 255) ?_
        refine last_ (i := 8) (N := none) #[true, true, true, true, true, true, true, true, true] rfl rfl (one_of HT_.out (by kernel_rfl)) (by decide) (fun K hK => ?_)
        refine skip_ (w1 := ?_) (by rfl) rfl ?_ ?_
        rotate_left
        ·go_simp
         rfl
        refine hK.out _ _ ?_
        clear hK K
        refine done_ (done_of HT_.out (by kernel_rfl)) ?_
        have n0 : Aside0 (Kd.V (Kd.slice 43 k43) 44 (w62.setCell ⟨go13, (a2 : Int).toNat, none⟩ (.int .i64 (rd y334 a2))) w.heap.size (fun k_ => (P0_0_ k_ ∨ w.heap.size ≤ k_) ∧ some k_ ≠ (.slice (some ⟨go10, 0, none⟩) y330.length co10 : Value).ownBlock ∧ some k_ ≠ (.slice (some ⟨go13, 0, none⟩) y335.length co56 : Value).ownBlock ∧ k_ ≠ gb325 ∧ k_ ≠ gb326 ∧ k_ ≠ gb338) (.slice (some ad333) l0_0.length c0_0) l0_0) := ⟨by (with_reducible repeat (first | apply Kd.V_alloc | apply Kd.V_drewN | apply Kd.V_drew)); exact Kd.V_mono (Kd.V_far (p := ⟨go13, (a2 : Int).toNat, none⟩) (Kd.V_mono HO0_0.out (fun k_ hk => (⟨hk, fun e_ => hk.2.2.1 (by rw [e_]; rfl)⟩ : _ ∧ k_ ≠ go13))) (fun _ hk => hk.2) (.int .i64 (rd y334 a2))) (fun _ hk => ⟨hk.1.1, ⟨hk.1.2.1, ⟨hk.1.2.2.1, ⟨hk.1.2.2.2.1, ⟨hk.1.2.2.2.2.1, hk.1.2.2.2.2.2⟩⟩⟩⟩⟩)⟩
        have n1 : Aside0 (Kd.R (Kd.int .i64) 3 (w62.setCell ⟨go13, (a2 : Int).toNat, none⟩ (.int .i64 (rd y334 a2))) w.heap.size (fun k_ => (w.heap.size ≤ k_) ∧ some k_ ≠ (.slice (some ⟨go13, 0, none⟩) y335.length co56 : Value).ownBlock) (.slice (some ⟨go10, 0, none⟩) y330.length co10) y334) := ⟨by (with_reducible repeat (first | apply rA_ | apply rN_ | apply rD_)); exact Kd.R_mono (Kd.R_far (p := ⟨go13, (a2 : Int).toNat, none⟩) (Kd.R_mono HO332.out (fun k_ hk => (⟨hk, fun e_ => hk.2 (by rw [e_]; rfl)⟩ : _ ∧ k_ ≠ go13))) (fun _ hk => hk.2) (.int .i64 (rd y334 a2))) (fun _ hk => ⟨hk.1.1, hk.1.2⟩)⟩
        have n2 : Aside0 (Kd.V k43 43 (w62.setCell ⟨go13, (a2 : Int).toNat, none⟩ (.int .i64 (rd y334 a2))) w.heap.size (fun k_ => (P0_0_ k_ ∨ w.heap.size ≤ k_) ∧ some k_ ≠ (.slice (some ⟨go10, 0, none⟩) y330.length co10 : Value).ownBlock ∧ some k_ ≠ (.slice (some ⟨go13, 0, none⟩) y335.length co56 : Value).ownBlock ∧ k_ ≠ gb325 ∧ k_ ≠ gb326 ∧ k_ ≠ gb338) (.slice A333_0 (rd_L3 l0_0 a2).length c333_0) (rd_L3 l0_0 a2)) := ⟨by (with_reducible repeat (first | apply Kd.V_alloc | apply Kd.V_drewN | apply Kd.V_drew)); exact Kd.V_mono (Kd.V_far (p := ⟨go13, (a2 : Int).toNat, none⟩) (Kd.V_mono HL333_0.out (fun k_ hk => (⟨hk, fun e_ => hk.2.2.1 (by rw [e_]; rfl)⟩ : _ ∧ k_ ≠ go13))) (fun _ hk => hk.2) (.int .i64 (rd y334 a2))) (fun _ hk => ⟨hk.1.1, ⟨hk.1.2.1, ⟨hk.1.2.2.1, ⟨hk.1.2.2.2.1, ⟨hk.1.2.2.2.2.1, hk.1.2.2.2.2.2⟩⟩⟩⟩⟩)⟩
        have n3 : Aside0 (Kd.R (Kd.int .i64) 3 (w62.setCell ⟨go13, (a2 : Int).toNat, none⟩ (.int .i64 (rd y334 a2))) w.heap.size (fun k_ => (w.heap.size ≤ k_) ∧ some k_ ≠ (.slice (some ⟨go10, 0, none⟩) y330.length co10 : Value).ownBlock) (.slice (some ⟨go13, 0, none⟩) y335.length co56) y340) := ⟨by (with_reducible repeat (first | apply rA_ | apply rN_ | apply rD_)); exact HQ63.out⟩
        have n4 : Aside0 ((w62.setCell ⟨go13, (a2 : Int).toNat, none⟩ (.int .i64 (rd y334 a2))).heap[gb325]? = some (.cells #[.slice (some ad333) l0_0.length c0_0] 24 (0, 0))) := ⟨by (with_reducible repeat (first | refine bN_ ?_ _ | refine bD_ ?_ | refine bA_ ?_ _)); refine blk_far ?_ (by have h_ := Kd.R_ne HO337.out BK325.out (by decide); intro e_; exact h_ (by rw [e_]; rfl)) _; (with_reducible repeat (first | refine bN_ ?_ _ | refine bD_ ?_ | refine bA_ ?_ _)); exact BK325.out⟩
        have n5 : Aside0 ((w62.setCell ⟨go13, (a2 : Int).toNat, none⟩ (.int .i64 (rd y334 a2))).heap[gb326]? = some (.cells #[.slice none 0 0] 24 (0, 0))) := ⟨by (with_reducible repeat (first | refine bN_ ?_ _ | refine bD_ ?_ | refine bA_ ?_ _)); refine blk_far ?_ (by have h_ := Kd.R_ne HO337.out BK326.out (by decide); intro e_; exact h_ (by rw [e_]; rfl)) _; (with_reducible repeat (first | refine bN_ ?_ _ | refine bD_ ?_ | refine bA_ ?_ _)); exact BK326.out⟩
        have n6 : Aside0 ((w62.setCell ⟨go13, (a2 : Int).toNat, none⟩ (.int .i64 (rd y334 a2))).heap[gb338]? = some (.cells #[.int .i64 a3, .slice (some ⟨go13, 0, none⟩) y335.length co56] 43 (0, 0))) := ⟨by (with_reducible repeat (first | refine bN_ ?_ _ | refine bD_ ?_ | refine bA_ ?_ _)); refine blk_far ?_ (by have h_ := Kd.R_ne HO337.out BK338.out (by decide); intro e_; exact h_ (by rw [e_]; rfl)) _; (with_reducible repeat (first | refine bN_ ?_ _ | refine bD_ ?_ | refine bA_ ?_ _)); exact BK338.out⟩
        have n7 : Aside0 (Below w.heap.size w (w62.setCell ⟨go13, (a2 : Int).toNat, none⟩ (.int .i64 (rd y334 a2)))) := ⟨by repeat (first | (with_reducible first | exact HB.out | apply hA_ | apply hN_ | apply hD_ | refine below_set ?_ GB13.out | refine below_set ?_ GE325.out | refine below_set ?_ GE326.out | refine below_set ?_ GE338.out) | exact HB.out)⟩
        (try clear HO0_0)
        (try clear HO332)
        (try clear HL333_0)
        (try clear HO337)
        (try clear BK325)
        (try clear BK326)
        (try clear BK338)
        (try clear HB)
        generalize (w62.setCell ⟨go13, (a2 : Int).toNat, none⟩ (.int .i64 (rd y334 a2))) = w64 at n0 n1 n2 n3 n4 n5 n6 n7 ⊢
        have HO0_0 := n0
        have HO332 := n1
        have HL333_0 := n2
        have HO337 := n3
        have BK325 := n4
        have BK326 := n5
        have BK338 := n6
        have HB := n7
        clear n0 n1 n2 n3 n4 n5 n6 n7
        try go_wp2
        have n0 := aM_ (Kd.V_drew HO0_0.out)
        have n1 := aM_ (Kd.R_drew HO332.out)
        have n2 := aM_ (Kd.V_drew HL333_0.out)
        have n3 := aM_ (Kd.R_drew HO337.out)
        have n4 := aM_ (blk_drew BK325.out)
        have n5 := aM_ (blk_drew BK326.out)
        have n6 := aM_ (blk_drew BK338.out)
        have n7 := aM_ (below_drew1 HB.out)
        clear HO0_0
        clear HO332
        clear HL333_0
        clear HO337
        clear BK325
        clear BK326
        clear BK338
        clear HB
        have HO0_0 := n0
        have HO332 := n1
        have HL333_0 := n2
        have HO337 := n3
        have BK325 := n4
        have BK326 := n5
        have BK338 := n6
        have HB := n7
        clear n0 n1 n2 n3 n4 n5 n6 n7
        have hbs_ := below_size HB.out
        have HSm := aM_ (Kd.S_old hS.out HB.out)
        have hp_ : 0 ≤ a2 := of_decide_eq_true c7b0
        have hq_ : a2 < (l0_0.length : Int) := of_decide_eq_true c8b0
        obtain ⟨gM, rfl⟩ := Kd.R_head (Kd.S_R HSm.out)
        obtain ⟨oki, Ae, ce, hSe, hcM, hoki, ⟨cellsM, hBM⟩, hback⟩ := S_push HSm.out a2 hp_ hq_
        have HSe := aM_ hSe
        have BKM := aM_ hBM
        have hkM := aM_ ((blk_cell hBM (a2).toNat).symm.trans hcM)
        have HBK := aM_ hback
        have HOK := aM_ hoki
        have HGM : Aside0 (gM < w.heap.size) := ⟨((Kd.S_R HSm.out).1 gM rfl).2⟩
        have HRW : Aside0 (∀ k, (Value.slice Ae (rd_L3 l0_0 a2).length ce).ownBlock = some k → P0_0_ k ∧ k < w.heap.size) := ⟨fun k hk => (hoki k ((Kd.S_R hSe).1 k hk)).1⟩
        clear hSe hBM hcM hback hoki hp_ hq_
        refine start_ (n := 13) (S := fun w' => w'.cell? ⟨gb325, 0, none⟩ = some (.slice (some ⟨gM, 0, none⟩) l0_0.length c0_0) ∧ w'.cell? ⟨gM, (a2).toNat, none⟩ = some (.slice Ae (rd_L3 l0_0 a2).length ce) ∧ w'.cell? ⟨gb338, 0, none⟩ = some (.int .i64 a3) ∧ w'.cell? ⟨gb338, 1, none⟩ = some (.slice (some ⟨go13, 0, none⟩) y335.length co56)) (ds := [12]) #[false, false, false, false, false, false, false, false, false, false, false, false, false] (by kernel_rfl) rfl rfl ⟨(blk_cell (BK325.out) 0).trans rfl, (blk_cell (BKM.out) _).trans hkM.out, (blk_cell (BK338.out) 0).trans rfl, (blk_cell (BK338.out) 1).trans rfl⟩ (fun hHeld => ?_)
        generalize w64.drew = w65 at HO0_0 HO332 HL333_0 HO337 BK325 BK326 BK338 HB HSm HSe BKM HBK hbs_ hHeld ⊢
        refine pU_ 0 (some 42) (mk_ 13 1) ?_
        refine pU_ 2 (some 44) (mk_ 13 5) ?_
        refine pU_ 3 (some 45) (mk_ 13 13) ?_
        refine pU_ 5 (some 47) (mk_ 13 45) ?_
        refine tK4_ 1 (some 43) (mk_ 13 47) ?_
        refine tK4_ 4 (some 46) (mk_ 13 63) ?_
        refine pU_ 6 (some 48) (mk_ 13 127) ?_
        refine tK4_ 7 (some 49) (mk_ 13 255) ?_
        refine tK4_ 8 (some 50) (mk_ 13 511) ?_
        refine oN_ 9 (some 51) (mk_ 13 1023) (fun K hK => ?_)
        refine value_ (w1 := ?_) (v := ?_) (by rfl) rfl ?_ ?_
        rotate_left 2
        ·go_simp
         constructor
         ·rfl
         ·rfl
        refine hK.out _ _ ⟨(blk_cell (blk_alloc BK325.out _) 0).trans rfl, (blk_cell (blk_alloc BKM.out _) _).trans hkM.out, (blk_cell (blk_alloc BK338.out _) 0).trans rfl, (blk_cell (blk_alloc BK338.out _) 1).trans rfl⟩ (fun hHeld => ?_)
        clear hK K
        refine norm_ (a' := ?_) ?_ ?_
        rotate_left
        ·show Act.put _ (some 51) _ = _
         simp only [pt_, pn_, sI_, s0_, s1_, i64_w, i32_w]
         rfl
        refine oN_ 10 (some 52) (mk_ 13 2047) (fun K hK => ?_)
        have hT1 := HO337.out.1
        have hT2 : ∀ k, (.slice (some ⟨go13, 0, none⟩) y335.length co56 : Value).ownBlock = some k → w.heap.size ≤ k := Kd.R_base HO337.out
        refine Kd.S_append_step k43 (w0 := w) b0 (by rfl) (.tmp 49) (.tmp 51) 44 43 (.agg #[(.int .i64 0), (.slice none 0 0)]) 32 rfl Try.underlying44 info43 rfl (by decide) (by omega) (.slice Ae (rd_L3 l0_0 a2).length ce) (rd_L3 l0_0 a2) (⟨a3, y340⟩ : S43) [.int .i64 a3, .slice (some ⟨go13, 0, none⟩) y335.length co56] (fun k_ => oki k_ ∨ (w.heap.size ≤ k_ ∧ some k_ ≠ (.slice (some ⟨go10, 0, none⟩) y330.length co10 : Value).ownBlock)) (fun k_ => some k_ = (.slice (some ⟨go13, 0, none⟩) y335.length co56 : Value).ownBlock) rfl rfl ?aP ?aK ?aF ?aO ?aB ?aS ?aL ?_
        (case aP => exact k43_mkM _ _ _ (⟨a3, y340⟩ : S43) (Kd.R_mono (Kd.R_tight rfl (Kd.R_lower HO337.out hb0w.out)) (fun _ h_ => h_)))
        (case aK => exact fun k hk => ⟨.inr ⟨hT2 k hk.symm, by have h1 := hT1 k hk.symm; first | exact h1.2.1 | exact h1.2 | exact h1.1 | exact h1.1.2 | exact h1⟩, fun e => absurd (hT2 k hk.symm) (Nat.not_le.2 (HRW.out k e.symm).2)⟩)
        (case aF => exact fun k hk => .inr ⟨Nat.le_trans hbs_ hk, fun e => Nat.not_le.2 (Kd.R_lt HO332.out k e.symm) hk⟩)
        (case aO => exact Kd.S_mono HSe.out (fun k hk => ⟨.inl hk, fun e => absurd (hT2 k e.symm) (Nat.not_le.2 (HOK.out k hk).1.2)⟩))
        (case aB => exact HB.out.mono hb0w.out)
        (case aS => exact Nat.le_trans hb0w.out hbs_)
        (case aL => have := LMcP.out; omega)
        intro vP wP ho hb hg hat
        rw [← NyP.out] at ho
        have hnb : ∀ {g t : Nat} {cs : Array Value}, w65.heap[g]? = some (.cells cs t (0, 0)) → t ≠ 43 → some g ≠ (Value.slice Ae (rd_L3 l0_0 a2).length ce).ownBlock := fun hb_ ht => Kd.S_ne HSe.out hb_ (Ne.symm ht)
        have HKP : Aside0 (Kept w wP P0_0_) := ⟨Kept.of_grown hg (Kept.of_below HB.out P0_0_) (fun k e => .inl (HRW.out k e).1)⟩
        have BK325n := aM_ (blk_grown BK325.out hg (hnb BK325.out (by decide)))
        have BK326n := aM_ (blk_grown BK326.out hg (hnb BK326.out (by decide)))
        have BKMn := aM_ (blk_grown BKM.out hg (hnb BKM.out (by decide)))
        have BK338n := aM_ (blk_grown BK338.out hg (fun e => absurd GE338.out (Nat.not_le.2 (HRW.out _ e.symm).2)))
        have HO332n := aM_ (Kd.R_mono (Kd.R_grown (Kd.R_bound HO332.out) hg (fun k hk e => absurd hk.2.1 (Nat.not_le.2 (HRW.out k e.symm).2))) (fun _ hk => hk.1))
        clear hT1 hT2 hnb
        clear BK325 BK326 BKM BK338 HO332 HB HSm
        have BK325 := BK325n
        have BK326 := BK326n
        have BKM := BKMn
        have BK338 := BK338n
        have HO332 := HO332n
        clear BK325n BK326n BKMn BK338n HO332n
        obtain ⟨An, cn, rfl⟩ := Kd.S_slice ho
        have HP := aM_ ho
        have HBP : Aside0 (Below b0 w wP) := ⟨hb⟩
        have HG := aM_ hg
        clear ho hb hg hat
        refine hK.out _ _ ⟨(blk_cell (BK325.out) 0).trans rfl, (blk_cell (BKM.out) _).trans hkM.out, (blk_cell (BK338.out) 0).trans rfl, (blk_cell (BK338.out) 1).trans rfl⟩ (fun hHeld => ?_)
        clear hK K
        refine norm_ (a' := ?_) ?_ ?_
        rotate_left
        ·show Act.put _ (some 52) _ = _
         simp only [pt_, pn_, sI_, s0_, s1_, i64_w, i32_w]
         rfl
        refine pU_ 11 (some 53) (mk_ 13 4095) ?_
        refine last_ (i := 12) (N := none) #[true, true, true, true, true, true, true, true, true, true, true, true, true] rfl rfl (by kernel_rfl) (by decide) (fun K hK => ?_)
        have hsM : wP.cell? ⟨gM, (a2).toNat, none⟩ = some (.slice Ae (rd_L3 l0_0 a2).length ce) := (blk_cell BKM.out _).trans hkM.out
        have hfM := blk_frozen BKM.out (a2).toNat
        refine skip_ (w1 := ?_) (by rfl) rfl ?_ ?_
        rotate_left
        ·go_simp
         rfl
        refine hK.out _ _ ?_
        clear hK K
        refine done_ (by kernel_rfl) ?_
        have HSn := aM_ (HBK.out wP (.slice An yP.length cn) yP (fun k_ => w.heap.size ≤ k_ ∧ some k_ ≠ (.slice (some ⟨go10, 0, none⟩) y330.length co10 : Value).ownBlock) HG.out HP.out (fun k hk => ⟨fun h => Nat.not_le.2 h.2 hk.1, fun e => absurd (e ▸ hk.1) (Nat.not_le.2 HGM.out)⟩))
        replace BK325 := aM_ (blk_far (p := ⟨gM, (a2).toNat, none⟩) BK325.out (by intro e_; have h_ := BK325.out; rw [show _ = gM from e_, BKM.out] at h_; simp at h_) (.slice An yP.length cn))
        replace BK326 := aM_ (blk_far (p := ⟨gM, (a2).toNat, none⟩) BK326.out (by intro e_; have h_ := BK326.out; rw [show _ = gM from e_, BKM.out] at h_; simp at h_) (.slice An yP.length cn))
        replace HO332 := aM_ (Kd.R_mono (Kd.R_far (p := ⟨gM, (a2).toNat, none⟩) (Kd.R_bound HO332.out) (fun k hk e => absurd hk.2.1 (Nat.not_le.2 (show k < w.heap.size from (show k = gM from e) ▸ HGM.out))) (.slice An yP.length cn)) (fun _ hk => hk.1))
        replace HKP := aM_ (HKP.out.setCell (p := ⟨gM, (a2).toNat, none⟩) (.inl ((Kd.S_R hS.out).1 gM rfl)) (.slice An yP.length cn))
        replace HBP : Aside0 (Below b0 w (wP.setCell ⟨gM, (a2).toNat, none⟩ (.slice An yP.length cn))) := ⟨HBP.out.setCell (Kd.S_base hS.out gM rfl) _⟩
        clear hsM hfM HG HP HBK HSe BKM hkM HOK HRW hHeld
        generalize (wP.setCell ⟨gM, (a2).toNat, none⟩ (.slice An yP.length cn)) = wQ at HSn HKP HBP BK325 BK326 HO332 ⊢
        have hcz66_0 : wQ.cell? ⟨gb325, 0, none⟩ = some (.slice (some ⟨gM, 0, none⟩) l0_0.length c0_0) := (blk_cell BK325.out 0).trans rfl
        have hfz66_0 := blk_frozen BK325.out 0
        have hcz67_0 : wQ.cell? ⟨gb326, 0, none⟩ = some (.slice none 0 0) := (blk_cell BK326.out 0).trans rfl
        have hfz67_0 := blk_frozen BK326.out 0
        try go_wp2
        refine bodyPost_ret (results_ct rfl _ _ gb326 24 #[.slice (some ⟨gM, 0, none⟩) l0_0.length c0_0] (0, 0) _ rfl (by (with_reducible repeat (first | refine bN_ ?_ _ | refine bD_ ?_ | refine bA_ ?_ _)); refine blk_put (cs := #[.slice none 0 0]) ?_ 0 _ rfl; exact rW_ BK326.out) Try.underlying24 rfl (by kernel_rfl)) rfl ?_
        exact ⟨_, _, by first | rfl | (simp [*]; done), Kd.S_mono (Kd.S_set HSn.out BK326.out (by decide) 0 _) (fun k hk => hk.elim (fun h => ⟨.inl h.1, fun e => absurd (Kd.R_base HO332.out k e.symm) (Nat.not_le.2 h.2)⟩) (fun h => ⟨.inr h.1, h.2⟩)), Kd.R_mono (Kd.R_far (p := ⟨gb326, 0, none⟩) (Kd.R_types HO332.out BK326.out (by decide)) (fun _ hk => hk.2) _) (fun _ hk => (by first | exact hk.1.1 | exact hk.1)), HBP.out.setCell (Nat.le_trans hb0w.out GE326.out) _, HKP.out.setCell (p := ⟨gb326, 0, none⟩) (.inr GE326.out) _⟩
      ·rw [if_neg c12] at H
       exact absurd H (by simp)
     ·rw [if_neg c11] at H
      exact absurd H (by simp)
    ·rw [if_neg c9] at H
     exact absurd H (by simp)
   ·rw [if_neg c8] at H
    exact absurd H (by simp)
  ·rw [if_neg c7] at H
   exact absurd H (by simp)
 ·rw [if_neg c6] at H
  exact absurd H (by simp)
def spec_Swap.j0 : Nat → List Int → Int → Int → Bool → List (List (S43)) → Option ((List (List (S43))) × List Int × Int)
  | 0, _, _, _, _, _ => none
  | k + 1, x1, x2, x3, x28, x348000 => if x28 = true then ((spec_l6Copy.f k x348000).bind fun t351 => ((some (([] : List Int) : List Int)).bind fun y354 => (if y354.length + x1.length < 17592186044416 then (some (t351, (y354 ++ x1), 0)) else (none)))) else ((spec_l6Load.f k x348000 x1 x2 0 true).bind fun bt360 => ((spec_l6Copy.f k x348000).bind fun t364 => ((spec_l6Store.f t364 bt360.2 x2 x3 true).bind fun bt367 => (some (bt367.1, bt367.2, bt360.1)))))
def spec_Swap.f (k : Nat) (l0_0 : List (List (S43))) (l1 : List Int) (a2 : Int) (a3 : Int) : Option ((List (List (S43))) × List Int × Int) := (spec_l6Right.f k l0_0 l1 a2).bind fun t349 => (if t349 = true then (if 0 ≤ a2 then (if a2 < (l0_0.length : Int) then (spec_Swap.j0 k l1 a2 a3 (((rd_L3 l0_0 a2).length : Int) == 4000) l0_0) else (none)) else (none)) else (spec_Swap.j0 k l1 a2 a3 true l0_0))
set_option maxHeartbeats 8000000 in
set_option maxRecDepth 100000 in
theorem spec_Swap.calls (k : Nat) (A0_0 : Option Addr) (c0_0 : Nat) (l0_0 : List (List (S43))) (A1 : Option Addr) (c1 : Nat) (l1 : List Int) (a2 : Int) (a3 : Int) (r1 : List (List (S43))) (r2 : List Int) (r3 : Int) (w : World) (hr0_0 : Kd.C (Kd.slice 43 k43) w A0_0 l0_0.length l0_0) (hc0_0 : l0_0.length ≤ c0_0) (hr1 : Kd.C (Kd.int .i64) w A1 l1.length l1) (hc1 : l1.length ≤ c1) (h : spec_Swap.f k l0_0 l1 a2 a3 = some (r1, r2, r3)) :
  Calls Try.prog 46 #[.agg #[.slice A0_0 l0_0.length c0_0], .slice A1 l1.length c1, .int .i64 a2, .int .i64 a3] w fun e w' => ∃ v0_ v1_ : Value, e = .returned (.tuple #[.agg #[v0_], v1_, .int .i64 r3]) ∧ Kd.S (sslice 43 k43) 44 w' w.heap.size (fun k_ => (w.heap.size ≤ k_) ∧ some k_ ≠ (v1_ : Value).ownBlock) v0_ r1 ∧ Kd.R (Kd.int .i64) 3 w' w.heap.size (fun k_ => (w.heap.size ≤ k_)) v1_ r2 ∧ Below w.heap.size w w' := by
 have hu24 := Try.underlying24
 have HR0_0 := aM_ hr0_0
 have HC0_0 := aM_ hc0_0
 clear hr0_0 hc0_0
 have HR1 := aM_ hr1
 have HC1 := aM_ hc1
 clear hr1 hc1
 have HB := aM_ (Below.refl w.heap.size w)
 have H : ((spec_l6Right.f k l0_0 l1 a2).bind fun t349 => (if t349 = true then (if 0 ≤ a2 then (if a2 < (l0_0.length : Int) then (spec_Swap.j0 k l1 a2 a3 (((rd_L3 l0_0 a2).length : Int) == 4000) l0_0) else (none)) else (none)) else (spec_Swap.j0 k l1 a2 a3 true l0_0))) = some (r1, r2, r3) := h
 clear h
 have HC5 := aM_ H
 clear H
 go_enter Try.func46, Try.ntmps46
 go_upto_region 1 with (first | ((with_reducible refine gate_dst (N := 4) rfl ?_); (try (refine gate_guard (by rfl) ?_; dsimp only)); refine bX_ 4 (cs := #[.slice A0_0 l0_0.length c0_0]) (t := 24) ?_; intro gb347 hg w6 hbox hb; have n0 := aM_ (sT_ HB.out hb); have n1 := aM_ (hbox); have n2 := aM_ (sZ_ hg HB.out); have n3 := aM_ (sZ_ hg HB.out); clear HB; have HB := n0; have BK347 := n1; have GW347 := n2; have GE347 := n3; clear n0 n1 n2 n3; clear hb hbox hg) | ((with_reducible refine gate_dst (N := 8) rfl ?_); (try (refine gate_guard (by rfl) ?_; dsimp only)); refine bX_ 8 (cs := #[.slice none 0 0]) (t := 24) ?_; intro gb348 hg w7 hbox hb; have n0 := aM_ (nB_ BK347.out hb); have n1 := aM_ (sT_ HB.out hb); have n2 := aM_ (hbox); have n3 := aM_ (sZ_ hg HB.out); have n4 := aM_ (sZ_ hg HB.out); have n5 := aM_ (nL_ hg BK347.out); have n6 := aM_ (nG_ hg BK347.out); clear BK347; clear HB; have BK347 := n0; have HB := n1; have BK348 := n2; have GW348 := n3; have GE348 := n4; have NB347_348 := n5; have NB348_347 := n6; clear n0 n1 n2 n3 n4 n5 n6; clear hb hbox hg))
 (try simp only [Act.put, List.setIfInBounds_toArray, List.set_cons_zero, List.set_cons_succ])
 go_cut [28] (fun v28 wc => ∃ (kq : Nat) (x28_4 : Bool), v28 = .bool x28_4 ∧ Aside0 (spec_Swap.j0 kq l1 a2 a3 x28_4 l0_0 = some (r1, r2, r3)) ∧ Aside0 (kq ≤ k) ∧ Aside0 (wc.heap[gb347]? = some (.cells #[(.slice A0_0 l0_0.length c0_0)] 24 (0, 0))) ∧ Aside0 (wc.heap[gb348]? = some (.cells #[(.slice none 0 0)] 24 (0, 0))) ∧ Aside0 (Below w.heap.size w wc))
 case first =>
  have H := HC5.out
  clear HC5
  replace H := Option.bind_eq_some_iff.mp H
  obtain ⟨t349, A80, H⟩ := H
  replace H : (if t349 = true then (if 0 ≤ a2 then (if a2 < (l0_0.length : Int) then (spec_Swap.j0 k l1 a2 a3 (((rd_L3 l0_0 a2).length : Int) == 4000) l0_0) else (none)) else (none)) else (spec_Swap.j0 k l1 a2 a3 true l0_0)) = some (r1, r2, r3) := H
  have A8 := aM_ A80
  clear A80
  by_cases c9 : t349 = true
  ·subst c9
   have H1 : (if 0 ≤ a2 then (if a2 < (l0_0.length : Int) then (spec_Swap.j0 k l1 a2 a3 (((rd_L3 l0_0 a2).length : Int) == 4000) l0_0) else (none)) else (none)) = some (r1, r2, r3) := by rw [if_pos rfl] at H; exact H
   clear H
   have H := H1
   clear H1
   by_cases c10 : 0 ≤ a2
   ·rw [if_pos c10] at H
    have c10b0 : decide (0 ≤ a2) = true := decide_eq_true c10
    clear c10
    (first | rw [c10b0] | (simp only [i64_w, i32_w]; rw [c10b0]) | skip)
    by_cases c11 : a2 < (l0_0.length : Int)
    ·rw [if_pos c11] at H
     have c11b0 : decide (a2 < (l0_0.length : Int)) = true := decide_eq_true c11
     clear c11
     have H' := aM_ H
     clear H
     have hnb12 := NB347_348.out
     have hnc12 := NB348_347.out
     have hcz13_0 : w7.cell? ⟨gb347, 0, none⟩ = some (.slice A0_0 l0_0.length c0_0) := (blk_cell BK347.out 0).trans rfl
     have hfz13_0 := blk_frozen BK347.out 0
     go_wp2_with (first | ((with_reducible refine gate_callee (f := 61) rfl ?_); refine gL_ (some 18) Try.func61 #[.agg #[.slice A0_0 l0_0.length c0_0], .slice A1 l1.length c1, .int .i64 a2] ?_; (with_reducible refine (spec_l6Right.calls k _ _ l0_0 _ _ l1 a2 true _ ?side1 ?side2 ?side3 ?side4 A8.out).mono ?_); (case side1 => exact cS_ (Kd.C_below HR0_0.out HB.out)); (case side2 => exact HC0_0.out); (case side3 => exact cS_ (Kd.C_below HR1.out HB.out)); (case side4 => exact HC1.out); rintro e w14 ⟨rfl, hb⟩; refine ⟨_, rfl, ?_⟩; have n0 := aM_ (nB_ BK347.out hb); have n1 := aM_ (nB_ BK348.out hb); have n2 := aM_ (sT_ HB.out hb); clear BK347; clear BK348; clear HB; have BK347 := n0; have BK348 := n1; have HB := n2; clear n0 n1 n2; have hcz15_0 : w14.cell? ⟨gb347, 0, none⟩ = some (.slice A0_0 l0_0.length c0_0) := (blk_cell BK347.out 0).trans rfl; have hfz15_0 := blk_frozen BK347.out 0; have p350 : 0 ≤ (a2 : Int) := of_decide_eq_true (by first | (with_reducible assumption) | assumption); have q350 : a2 < (l0_0.length : Int) := of_decide_eq_true (by first | (with_reducible assumption) | assumption); obtain ⟨ad350, A350_0, c350_0, e350, hx350_0, hl350_0, hi350_0⟩ := at_L3 HR0_0.out a2 p350 q350; cases e350; replace hx350_0 := cB_ HB.out hx350_0; have HR350_0 := aM_ hi350_0; have HC350_0 := aM_ hl350_0; clear hi350_0 hl350_0; replace p350 := eq_true p350; replace q350 := eq_true q350))
     go_meet
     case rel => exact ⟨_, ((((rd_L3 l0_0 a2).length : Int) == 4000)), (by first | rfl | (simp; done) | (simp [*]; done)), H', ⟨by first | omega | exact Nat.le_refl _⟩, ⟨rW_ BK347.out⟩, ⟨rW_ BK348.out⟩, ⟨gW_ HB.out⟩⟩
    ·rw [if_neg c11] at H
     exact absurd H (by simp)
   ·rw [if_neg c10] at H
    exact absurd H (by simp)
  ·replace c9 := Bool.eq_false_iff.mpr c9
   subst c9
   have H1 : (spec_Swap.j0 k l1 a2 a3 true l0_0) = some (r1, r2, r3) := by rw [if_neg (show ¬ (false = true) by decide)] at H; exact H
   clear H
   have H := H1
   clear H1
   have H' := aM_ H
   clear H
   have hnb16 := NB347_348.out
   have hnc16 := NB348_347.out
   have hcz17_0 : w7.cell? ⟨gb347, 0, none⟩ = some (.slice A0_0 l0_0.length c0_0) := (blk_cell BK347.out 0).trans rfl
   have hfz17_0 := blk_frozen BK347.out 0
   go_wp2_with (first | ((with_reducible refine gate_callee (f := 61) rfl ?_); refine gL_ (some 18) Try.func61 #[.agg #[.slice A0_0 l0_0.length c0_0], .slice A1 l1.length c1, .int .i64 a2] ?_; (with_reducible refine (spec_l6Right.calls k _ _ l0_0 _ _ l1 a2 false _ ?side1 ?side2 ?side3 ?side4 A8.out).mono ?_); (case side1 => exact cS_ (Kd.C_below HR0_0.out HB.out)); (case side2 => exact HC0_0.out); (case side3 => exact cS_ (Kd.C_below HR1.out HB.out)); (case side4 => exact HC1.out); rintro e w18 ⟨rfl, hb⟩; refine ⟨_, rfl, ?_⟩; have n0 := aM_ (nB_ BK347.out hb); have n1 := aM_ (nB_ BK348.out hb); have n2 := aM_ (sT_ HB.out hb); clear BK347; clear BK348; clear HB; have BK347 := n0; have BK348 := n1; have HB := n2; clear n0 n1 n2))
   go_meet
   case rel => exact ⟨_, (true), (by first | rfl | (simp; done) | (simp [*]; done)), H', ⟨by first | omega | exact Nat.le_refl _⟩, ⟨rW_ BK347.out⟩, ⟨rW_ BK348.out⟩, ⟨gW_ HB.out⟩⟩
 case rest =>
  clear HC5
  try clear c1
  try clear p2
  try clear c3
  try clear p3
  try clear q3
  try clear hx3
  try clear c4
  try clear c6
  try clear c9
  try clear c10
  try clear c10b0
  try clear c11
  try clear c11b0
  try clear c12
  try clear c16
  try clear hcz13_0 hfz13_0
  try clear hcz15_0 hfz15_0
  try clear hcz17_0 hfz17_0
  try clear hx350_0
  try clear p350
  try clear q350
  obtain ⟨kq, x28_4, rfl, HA, HJ4, BK347, BK348, HB⟩ := hcut
  cases kq with
  | zero => exact absurd HA.out (by simp [spec_Swap.j0])
  | succ kj4 =>
   have H := HA.out
   clear HA
   simp only [spec_Swap.j0] at H
   by_cases c19 : x28_4 = true
   ·subst c19
    have H1 : ((spec_l6Copy.f kj4 l0_0).bind fun t351 => ((some (([] : List Int) : List Int)).bind fun y354 => (if y354.length + l1.length < 17592186044416 then (some (t351, (y354 ++ l1), 0)) else (none)))) = some (r1, r2, r3) := by rw [if_pos rfl] at H; exact H
    clear H
    have H := H1
    clear H1
    replace H := Option.bind_eq_some_iff.mp H
    obtain ⟨t351, A200, H⟩ := H
    replace H : ((some (([] : List Int) : List Int)).bind fun y354 => (if y354.length + l1.length < 17592186044416 then (some (t351, (y354 ++ l1), 0)) else (none))) = some (r1, r2, r3) := H
    have A20 := aM_ A200
    clear A200
    obtain ⟨y354, hy354⟩ : ∃ y_ : List Int, y_ = (([] : List Int)) := ⟨_, rfl⟩
    replace H : (if y354.length + l1.length < 17592186044416 then (some (t351, (y354 ++ l1), 0)) else (none)) = some (r1, r2, r3) := by first | (rw [hy354]; with_reducible exact H) | (have H2_ := (Option.bind_some _ _).symm.trans H; rw [hy354]; with_reducible exact H2_) | (have H2_ := (Option.bind_some _ _).symm.trans H; with_reducible exact H2_) | with_reducible exact H | (rw [hy354]; exact H) | exact H
    have Ny354 := aM_ hy354
    clear hy354
    by_cases c21 : y354.length + l1.length < 17592186044416
    ·rw [if_pos c21] at H
     have LMc21 := aM_ c21
     clear c21
     obtain ⟨y357, hy357⟩ : ∃ y_ : List Int, y_ = (y354 ++ l1) := ⟨_, rfl⟩
     replace H : (some (t351, y357, 0)) = some (r1, r2, r3) := by first | (rw [hy357]; with_reducible exact H) | (have H2_ := (Option.bind_some _ _).symm.trans H; rw [hy357]; with_reducible exact H2_) | (have H2_ := (Option.bind_some _ _).symm.trans H; with_reducible exact H2_) | with_reducible exact H | (rw [hy357]; exact H) | exact H
     have Ny357 := aM_ hy357
     clear hy357
     simp only [Option.some.injEq, Prod.mk.injEq] at H
     obtain ⟨rfl, rfl, rfl⟩ := H
     have hnb22 := NB347_348.out
     have hnc22 := NB348_347.out
     have hcz23_0 : wc.cell? ⟨gb347, 0, none⟩ = some (.slice A0_0 l0_0.length c0_0) := (blk_cell BK347.out 0).trans rfl
     have hfz23_0 := blk_frozen BK347.out 0
     go_wp2_with (first | ((with_reducible refine gate_callee (f := 85) rfl ?_); refine gL_ (some 30) Try.func85 #[.agg #[.slice A0_0 l0_0.length c0_0]] ?_; (with_reducible refine (spec_l6Copy.calls kj4 _ _ l0_0 t351 _ ?side1 ?side2 A20.out).mono ?_); (case side1 => exact cS_ (Kd.C_below HR0_0.out HB.out)); (case side2 => exact HC0_0.out); rintro e w24 ⟨v352, rfl, ho0, hb⟩; refine ⟨_, rfl, ?_⟩; have n0 := aM_ (Kd.S_lower (Kd.S_newM (M := fun k_ => (w.heap.size ≤ k_)) ho0 (below_size (gB_ HB.out)) (fun k_ h_ => h_)) (below_size (gB_ HB.out))); have n1 := aM_ (nB_ BK347.out hb); have n2 := aM_ (nB_ BK348.out hb); have n3 := aM_ (sT_ HB.out hb); clear BK347; clear BK348; clear HB; have HO353 := n0; have BK347 := n1; have BK348 := n2; have HB := n3; clear n0 n1 n2 n3; (try clear ho0)) | ((with_reducible refine gate_dst (N := 31) rfl ?_); (try (refine gate_guard (by rfl) ?_; dsimp only)); refine Kd.R_lit (Kd.int .i64) _ 3 ?hg (N := 31) ?hd (xs := ([] : List Int)) (inner := []) (ok := fun _ => True) (okp := fun _ => True) ?hr ?hp (fun _ hk => hk) trivial (Below.refl _ _) (Nat.le_refl _) (by simp) ?_; (case hd => rfl); (case hg => rfl); (case hr => first | (go_simp; done) | (go_simp; rfl)); (case hp => exact (Reps.none _ _)); intro v355 w25 ho26 hb hg_ hnew_; clear hg_ hnew_; (first | rw [← Ny354.out] at ho26 | (simp only [Int.reduceToNat] at ho26; rw [← Ny354.out] at ho26)); have n0 := aM_ (Kd.S_elder' (by (with_reducible repeat (first | apply Kd.S_alloc | apply Kd.S_drewN | apply Kd.S_drew)); exact HO353.out) (Kd.R_base ho26) hb); have n1 := aM_ (Kd.R_lower (Kd.R_newM (M := fun k_ => (w.heap.size ≤ k_)) ho26 (below_size (gB_ HB.out)) (fun k_ h_ => h_)) (below_size (gB_ HB.out))); have n2 := aM_ (nB_ BK347.out hb); have n3 := aM_ (nB_ BK348.out hb); have n4 := aM_ (sT_ HB.out hb); clear HO353; clear BK347; clear BK348; clear HB; have HO353 := n0; have HO356 := n1; have BK347 := n2; have BK348 := n3; have HB := n4; clear n0 n1 n2 n3 n4; clear hb ho26) | ((with_reducible refine gate_builtin (b := .append) (xs := #[.tmp 31, .tmp 32]) rfl ?_); (try (refine gate_guard (by rfl) ?_; dsimp only)); at_builtin; refine Kd.R_append_rows (Kd.int .i64) (w0 := w) w.heap.size rfl (.tmp 31) (.tmp 32) 31 3 (.int .i64 0) 8 rfl Try.underlying31 info3 rfl (by decide) (by omega) v355 y354 l1 _ _ _ (fun k_ => (w.heap.size ≤ k_)) (fun _ => False) rfl rfl ?aO ?aR (fun _ _ h => h) (fun _ h => h.elim) ?aF ?aB ?aS ?aL ?_; (case aR => repeat (first | exact (Kd.C_below HR1.out HB.out) | (with_reducible refine Kd.C_alloc ?_ _) | (with_reducible refine Kd.C_drewN ?_ _) | (with_reducible refine Kd.C_drew ?_))); (case aB => exact (gB_ HB.out)); (case aF => exact (fun k_ hk => (Nat.le_trans (below_size (gB_ HB.out)) hk))); (case aO => exact (by (with_reducible repeat (first | apply rA_ | apply rN_ | apply rD_)); exact Kd.R_mono HO356.out (fun _ hk => hk.1))); (case aS => exact (below_size (gB_ HB.out))); (case aL => have := LMc21.out; omega); intro v358 w27 ho hb hg hat; rw [← Ny357.out] at ho; have n0 := aM_ (blk_grown (g := gb347) (o := .cells #[.slice A0_0 l0_0.length c0_0] 24 (0, 0)) (by (with_reducible repeat (first | refine bN_ ?_ _ | refine bD_ ?_ | refine bA_ ?_ _)); exact BK347.out) hg (Kd.R_ne HO356.out BK347.out (by decide))); have n1 := aM_ (blk_grown (g := gb348) (o := .cells #[.slice none 0 0] 24 (0, 0)) (by (with_reducible repeat (first | refine bN_ ?_ _ | refine bD_ ?_ | refine bA_ ?_ _)); exact BK348.out) hg (Kd.R_ne HO356.out BK348.out (by decide))); have n2 := aM_ (Kd.S_after (ok := (fun k_ => (w.heap.size ≤ k_))) (by (with_reducible repeat (first | apply Kd.S_alloc | apply Kd.S_drewN | apply Kd.S_drew)); exact Kd.S_mono HO353.out (fun _ hk => ⟨hk.1.1, hk.2⟩)) hg hat); have n3 := aM_ (hb); have n4 := aM_ (ho); clear BK347; clear BK348; clear HO353; clear HB; clear HO356; have BK347 := n0; have BK348 := n1; have HO353 := n2; have HB := n3; have HO359 := n4; clear n0 n1 n2 n3 n4; clear ho hb hg hat; obtain ⟨Ao28, co28, eo28⟩ := Kd.S_slice HO353.out; subst eo28; have hcz29_0 : w27.cell? ⟨gb348, 0, none⟩ = some (.slice none 0 0) := (blk_cell BK348.out 0).trans rfl; have hfz29_0 := blk_frozen BK348.out 0))
     refine bodyPost_ret (results_ctt rfl _ _ gb348 24 #[.slice Ao28 t351.length co28] (0, 0) _ rfl (by (with_reducible repeat (first | refine bN_ ?_ _ | refine bD_ ?_ | refine bA_ ?_ _)); refine blk_put (cs := #[.slice none 0 0]) ?_ 0 _ rfl; exact rW_ BK348.out) Try.underlying24 rfl (by kernel_rfl)) rfl ?_
     exact ⟨_, _, fR_, (by (with_reducible repeat (first | apply Kd.S_alloc | apply Kd.S_drewN | apply Kd.S_drew)); exact Kd.S_mono (Kd.S_far (p := ⟨gb348, 0, none⟩) (Kd.S_types HO353.out BK348.out (by decide)) (fun _ hk => hk.2) (.slice Ao28 t351.length co28)) (fun _ hk => ⟨hk.1.1, hk.1.2⟩)), by (with_reducible repeat (first | apply rA_ | apply rN_ | apply rD_)); exact Kd.R_mono (Kd.R_far (p := ⟨gb348, 0, none⟩) (Kd.R_types HO359.out BK348.out (by decide)) (fun _ hk => hk.2) (.slice Ao28 t351.length co28)) (fun _ hk => hk.1), gB_ HB.out⟩
    ·rw [if_neg c21] at H
     exact absurd H (by simp)
   ·replace c19 := Bool.eq_false_iff.mpr c19
    subst c19
    have H1 : ((spec_l6Load.f kj4 l0_0 l1 a2 0 true).bind fun bt360 => ((spec_l6Copy.f kj4 l0_0).bind fun t364 => ((spec_l6Store.f t364 bt360.2 a2 a3 true).bind fun bt367 => (some (bt367.1, bt367.2, bt360.1))))) = some (r1, r2, r3) := by rw [if_neg (show ¬ (false = true) by decide)] at H; exact H
    clear H
    have H := H1
    clear H1
    replace H := Option.bind_eq_some_iff.mp H
    obtain ⟨⟨t360, t361⟩, A300, H⟩ := H
    replace H : ((spec_l6Copy.f kj4 l0_0).bind fun t364 => ((spec_l6Store.f t364 t361 a2 a3 true).bind fun bt367 => (some (bt367.1, bt367.2, t360)))) = some (r1, r2, r3) := H
    have A30 := aM_ A300
    clear A300
    replace H := Option.bind_eq_some_iff.mp H
    obtain ⟨t364, A310, H⟩ := H
    replace H : ((spec_l6Store.f t364 t361 a2 a3 true).bind fun bt367 => (some (bt367.1, bt367.2, t360))) = some (r1, r2, r3) := H
    have A31 := aM_ A310
    clear A310
    replace H := Option.bind_eq_some_iff.mp H
    obtain ⟨⟨t367, t370⟩, A320, H⟩ := H
    replace H : (some (t367, t370, t360)) = some (r1, r2, r3) := H
    have A32 := aM_ A320
    clear A320
    simp only [Option.some.injEq, Prod.mk.injEq] at H
    obtain ⟨rfl, rfl, rfl⟩ := H
    have hnb33 := NB347_348.out
    have hnc33 := NB348_347.out
    have hcz34_0 : wc.cell? ⟨gb347, 0, none⟩ = some (.slice A0_0 l0_0.length c0_0) := (blk_cell BK347.out 0).trans rfl
    have hfz34_0 := blk_frozen BK347.out 0
    go_wp2_with (first | ((with_reducible refine gate_callee (f := 62) rfl ?_); refine gL_ (some 38) Try.func62 #[.agg #[.slice A0_0 l0_0.length c0_0], .slice A1 l1.length c1, .int .i64 a2, .int .i64 0, .bool true] ?_; (with_reducible refine (spec_l6Load.calls kj4 _ _ l0_0 _ _ l1 a2 0 true t360 t361 _ ?side1 ?side2 ?side3 ?side4 A30.out).mono ?_); (case side1 => exact cS_ (Kd.C_below HR0_0.out HB.out)); (case side2 => exact HC0_0.out); (case side3 => exact cS_ (Kd.C_below HR1.out HB.out)); (case side4 => exact HC1.out); rintro e w35 ⟨v362, rfl, ho0, hb⟩; refine ⟨_, rfl, ?_⟩; have n0 := aM_ (Kd.R_lower (Kd.R_newM (M := fun k_ => (w.heap.size ≤ k_)) ho0 (below_size (gB_ HB.out)) (fun k_ h_ => h_)) (below_size (gB_ HB.out))); have n1 := aM_ (nB_ BK347.out hb); have n2 := aM_ (nB_ BK348.out hb); have n3 := aM_ (sT_ HB.out hb); clear BK347; clear BK348; clear HB; have HO363 := n0; have BK347 := n1; have BK348 := n2; have HB := n3; clear n0 n1 n2 n3; (try clear ho0); have hcz36_0 : w35.cell? ⟨gb347, 0, none⟩ = some (.slice A0_0 l0_0.length c0_0) := (blk_cell BK347.out 0).trans rfl; have hfz36_0 := blk_frozen BK347.out 0) | ((with_reducible refine gate_callee (f := 85) rfl ?_); refine gL_ (some 43) Try.func85 #[.agg #[.slice A0_0 l0_0.length c0_0]] ?_; (with_reducible refine (spec_l6Copy.calls kj4 _ _ l0_0 t364 _ ?side1 ?side2 A31.out).mono ?_); (case side1 => exact cS_ (Kd.C_below HR0_0.out HB.out)); (case side2 => exact HC0_0.out); rintro e w37 ⟨v365, rfl, ho0, hb⟩; refine ⟨_, rfl, ?_⟩; have n0 := aM_ (bR_ HO363.out hb); have n1 := aM_ (Kd.S_lower (Kd.S_new' (Kd.S_newM (M := fun k_ => (w.heap.size ≤ k_)) ho0 (below_size (gB_ HB.out)) (fun k_ h_ => h_)) (Kd.R_lt (by (with_reducible repeat (first | apply rA_ | apply rN_ | apply rD_)); exact HO363.out))) (below_size (gB_ HB.out))); have n2 := aM_ (nB_ BK347.out hb); have n3 := aM_ (nB_ BK348.out hb); have n4 := aM_ (sT_ HB.out hb); clear HO363; clear BK347; clear BK348; clear HB; have HO363 := n0; have HO366 := n1; have BK347 := n2; have BK348 := n3; have HB := n4; clear n0 n1 n2 n3 n4; (try clear ho0); obtain ⟨Ao38, co38, eo38⟩ := Kd.S_slice HO366.out; subst eo38; obtain ⟨Ao39, co39, eo39⟩ := Kd.R_slice HO363.out; subst eo39) | ((with_reducible refine gate_callee (f := 86) rfl ?_); refine gL_ (some 47) Try.func86 #[.agg #[.slice Ao38 t364.length co38], .slice Ao39 t361.length co39, .int .i64 a2, .int .i64 a3, .bool true] ?_; (with_reducible refine (spec_l6Store.calls (fun k_ => (((((w.heap.size ≤ k_) ∧ True) ∧ some k_ ≠ (.slice Ao39 t361.length co39 : Value).ownBlock) ∧ k_ ≠ gb347) ∧ k_ ≠ gb348)) _ _ t364 _ _ t361 a2 a3 true t367 t370 w.heap.size _ ?side1 ?sideB ?side2 ?side3 A32.out).mono ?_); (case side1 => exact (Kd.S_types (Kd.S_types (HO366.out) BK347.out (by decide)) BK348.out (by decide))); (case sideB => exact (below_size (gB_ HB.out))); (case side2 => exact cS_ (Kd.R_reads' HO363.out).2.2); (case side3 => exact (Kd.R_reads' HO363.out).2.1); rintro e w40 ⟨v368, v371, rfl, ho0, ho1, hb, hk_⟩; refine ⟨_, rfl, ?_⟩; have n0 := aM_ trivial; have n1 := aM_ trivial; have n2 := aM_ (Kd.S_lower (Kd.S_mono (ok' := fun k_ => (w.heap.size ≤ k_) ∧ some k_ ≠ (v371 : Value).ownBlock ∧ some k_ ≠ (.slice Ao39 t361.length co39 : Value).ownBlock ∧ k_ ≠ gb347 ∧ k_ ≠ gb348) ho0 (fun k_ hk_ => ⟨Or.elim hk_.1 (fun hs_ => hs_.1.1.1.1) (fun hn_ => (Nat.le_trans (below_size (gB_ HB.out)) hn_)), hk_.2, Or.elim hk_.1 (fun hs_ => hs_.1.1.2) (fun hn_ => (Kd.fresh' (Kd.R_lt (by (with_reducible repeat (first | apply rA_ | apply rN_ | apply rD_)); exact HO363.out)) k_ hn_)), Or.elim hk_.1 (fun hs_ => hs_.1.2) (fun hn_ => (Kd.freshB (g := gb347) (o := .cells #[.slice A0_0 l0_0.length c0_0] 24 (0, 0)) (by (with_reducible repeat (first | refine bN_ ?_ _ | refine bD_ ?_ | refine bA_ ?_ _)); exact BK347.out) k_ hn_)), Or.elim hk_.1 (fun hs_ => hs_.2) (fun hn_ => (Kd.freshB (g := gb348) (o := .cells #[.slice none 0 0] 24 (0, 0)) (by (with_reducible repeat (first | refine bN_ ?_ _ | refine bD_ ?_ | refine bA_ ?_ _)); exact BK348.out) k_ hn_))⟩)) (Nat.le_refl _)); have n3 := aM_ (Kd.R_lower (Kd.R_new' (Kd.R_newM (M := fun k_ => (w.heap.size ≤ k_)) (Kd.R_mono (ok' := fun k_ => True) ho1 (fun _ hk_ => trivial)) (below_size (gB_ HB.out)) (fun k_ h_ => h_)) (Kd.R_lt (by (with_reducible repeat (first | apply rA_ | apply rN_ | apply rD_)); exact HO363.out))) (below_size (gB_ HB.out))); have n4 := aM_ (blk_kept (g := gb347) (o := .cells #[.slice A0_0 l0_0.length c0_0] 24 (0, 0)) (by (with_reducible repeat (first | refine bN_ ?_ _ | refine bD_ ?_ | refine bA_ ?_ _)); exact BK347.out) hk_ (fun h_ => absurd rfl (by first | exact h_.2 | exact h_.1.2 | exact h_.1.1.2 | exact h_.1.1.1.2))); have n5 := aM_ (blk_kept (g := gb348) (o := .cells #[.slice none 0 0] 24 (0, 0)) (by (with_reducible repeat (first | refine bN_ ?_ _ | refine bD_ ?_ | refine bA_ ?_ _)); exact BK348.out) hk_ (fun h_ => absurd rfl (by first | exact h_.2 | exact h_.1.2 | exact h_.1.1.2 | exact h_.1.1.1.2))); have n6 := aM_ (Below.trans (gB_ HB.out) hb); clear HO363; clear HO366; clear BK347; clear BK348; clear HB; have HO363 := n0; have HO366 := n1; have HO369 := n2; have HO372 := n3; have BK347 := n4; have BK348 := n5; have HB := n6; clear n0 n1 n2 n3 n4 n5 n6; (try clear hb); (try clear hk_); (try clear hb2); (try clear hk); (try clear hi); (try clear ho0); (try clear ho1)) | ((with_reducible refine gate_dst (N := 13) rfl ?_); (try (refine gate_guard (by rfl) ?_; dsimp only)); refine bX_ 13 (cs := #[.slice none 0 0]) (t := 24) ?_; intro gb373 hg w41 hbox hb; have n0 := aM_ trivial; have n1 := aM_ trivial; have n2 := aM_ (Kd.S_below (Kd.S_elderB (by (with_reducible repeat (first | apply Kd.S_alloc | apply Kd.S_drewN | apply Kd.S_drew)); exact HO369.out) gb373 (Nat.le_of_eq hg.symm)) hb); have n3 := aM_ (bR_ HO372.out hb); have n4 := aM_ (nB_ BK347.out hb); have n5 := aM_ (nB_ BK348.out hb); have n6 := aM_ (sT_ HB.out hb); have n7 := aM_ (hbox); have n8 := aM_ (sZ_ hg HB.out); have n9 := aM_ (sZ_ hg HB.out); have n10 := aM_ (nL_ hg BK347.out); have n11 := aM_ (nG_ hg BK347.out); have n12 := aM_ (nL_ hg BK348.out); have n13 := aM_ (nG_ hg BK348.out); clear HO363; clear HO366; clear HO369; clear HO372; clear BK347; clear BK348; clear HB; have HO363 := n0; have HO366 := n1; have HO369 := n2; have HO372 := n3; have BK347 := n4; have BK348 := n5; have HB := n6; have BK373 := n7; have GW373 := n8; have GE373 := n9; have NB347_373 := n10; have NB373_347 := n11; have NB348_373 := n12; have NB373_348 := n13; clear n0 n1 n2 n3 n4 n5 n6 n7 n8 n9 n10 n11 n12 n13; clear hb hbox hg; obtain ⟨Ao42, co42, eo42⟩ := Kd.S_slice HO369.out; subst eo42; have hnb43 := NB373_347.out; have hnc43 := NB347_373.out; have hnb44 := NB373_348.out; have hnc44 := NB348_373.out; have hcz45_0 : w41.cell? ⟨gb373, 0, none⟩ = some (.slice none 0 0) := (blk_cell BK373.out 0).trans rfl; have hfz45_0 := blk_frozen BK373.out 0; have hcz46_0 : w41.cell? ⟨gb348, 0, none⟩ = some (.slice none 0 0) := (blk_cell BK348.out 0).trans rfl; have hfz46_0 := blk_frozen BK348.out 0))
    refine bodyPost_ret (results_ctt rfl _ _ gb348 24 #[.slice Ao42 t367.length co42] (0, 0) _ rfl (by (with_reducible repeat (first | refine bN_ ?_ _ | refine bD_ ?_ | refine bA_ ?_ _)); refine blk_put (cs := #[.slice none 0 0]) ?_ 0 _ rfl; exact rWf_ BK348.out) Try.underlying24 rfl (by kernel_rfl)) rfl ?_
    exact ⟨_, _, fR_, by (with_reducible repeat (first | apply Kd.S_alloc | apply Kd.S_drewN | apply Kd.S_drew)); exact Kd.S_mono (Kd.S_far (p := ⟨gb348, 0, none⟩) (Kd.S_far (p := ⟨gb373, 0, none⟩) (Kd.S_mono (Kd.S_mono HO369.out (fun k_ hk => (⟨hk, hk.2⟩ : _ ∧ k_ ≠ gb373))) (fun k_ hk => (⟨hk, hk.1.1.2.2.2.2⟩ : _ ∧ k_ ≠ gb348))) (fun _ hk => hk.1.2) (.slice Ao42 t367.length co42)) (fun _ hk => hk.2) (.slice Ao42 t367.length co42)) (fun _ hk => ⟨hk.1.1.1.1, hk.1.1.1.2.1⟩), by (with_reducible repeat (first | apply rA_ | apply rN_ | apply rD_)); exact Kd.R_mono (Kd.R_far (p := ⟨gb348, 0, none⟩) (Kd.R_far (p := ⟨gb373, 0, none⟩) (Kd.R_types (Kd.R_types HO372.out BK373.out (by decide)) BK348.out (by decide)) (fun _ hk => hk.1.2) (.slice Ao42 t367.length co42)) (fun _ hk => hk.2) (.slice Ao42 t367.length co42)) (fun _ hk => hk.1.1.1.1), gB_ HB.out⟩
end Go.Proofs.Ythbcnakmnbilhaa.PFnExactSwap
