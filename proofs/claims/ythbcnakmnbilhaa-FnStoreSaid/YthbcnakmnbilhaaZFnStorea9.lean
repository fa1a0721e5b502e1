/- A part of the proof that the law FnStore holds for every input: the words, functions and walks that its row needs, without a condition of their own. -/
import Derived.Test.YthbcnakmnbilhaaZFnStorea2
import Derived.Test.YthbcnakmnbilhaaZFnStorea3
import Derived.Test.YthbcnakmnbilhaaZFnStorea8
import Derived.Test.YthbcnakmnbilhaaZFnStores
namespace Go.Proofs.Ythbcnakmnbilhaa.PFnStore
open Go.RowKit Go.Proofs.YthbcnakmnbilhaaW.PrintWords Go.Proofs.YthbcnakmnbilhaaW.PrintLast Go.Proofs.YthbcnakmnbilhaaW.PrintMore Go.Proofs.Ythbcnakmnbilhaa.SepMark
attribute [local go_sem] max2_int min2_int max_two min_two max_three min_three max_four min_four   -- for this text's walks alone
set_option linter.unusedVariables false
set_option linter.unusedSimpArgs false
def spec_l6Load.f (k : Nat) (l0_0 : List (List (S43))) (l1 : List Int) (a2 : Int) (a3 : Int) (a4 : Bool) : Option (Int × List Int) := if 0 ≤ a2 then (if a2 < (l0_0.length : Int) then ((spec_l1Max.f a3 0).bind fun t264 => (if a2 < (l1.length : Int) then ((spec_l1Max.f (wrap64 ((wrap64 (((rd_L4 l0_0 a2).length : Int) - 1)) - t264)) (rd l1 a2)).bind fun t266 => ((some (([] : List Int) : List Int)).bind fun y267 => (if y267.length + l1.length < 17592186044416 then ((some (y267 ++ l1 : List Int)).bind fun y270 => (if a2 < (y270.length : Int) then ((some (y270.set (a2 : Int).toNat t266 : List Int)).bind fun y273 => (if a4 = true then (if 0 ≤ t266 then (if t266 < ((rd_L4 l0_0 a2).length : Int) then ((spec_Join.f k y273 ((rd_T43 (rd_L4 l0_0 a2) t266).f1)).bind fun t275 => (some ((rd_T43 (rd_L4 l0_0 a2) t266).f0,t275))) else (none)) else (none)) else (if 0 ≤ t266 then (if t266 < ((rd_L4 l0_0 a2).length : Int) then (some ((rd_T43 (rd_L4 l0_0 a2) t266).f0,y273)) else (none)) else (none)))) else (none))) else (none)))) else (none))) else (none)) else (none)
set_option maxHeartbeats 8000000 in
set_option maxRecDepth 100000 in
theorem spec_l6Load.calls (k : Nat) (A0_0 : Option Addr) (c0_0 : Nat) (l0_0 : List (List (S43))) (A1 : Option Addr) (c1 : Nat) (l1 : List Int) (a2 : Int) (a3 : Int) (a4 : Bool) (r1 : Int) (r2 : List Int) (w : World) (hr0_0 : Kd.C (Kd.slice 43 k43) w A0_0 l0_0.length l0_0) (hc0_0 : l0_0.length ≤ c0_0) (hr1 : Kd.C (Kd.int .i64) w A1 l1.length l1) (hc1 : l1.length ≤ c1) (h : spec_l6Load.f k l0_0 l1 a2 a3 a4 = some (r1,r2)) :
  Calls Try.prog 62 #[.agg #[.slice A0_0 l0_0.length c0_0],.slice A1 l1.length c1,.int .i64 a2,.int .i64 a3,.bool a4] w fun e w' => ∃ v1_ : Value,e = .returned (.tuple #[.int .i64 r1,v1_]) ∧ Kd.R (Kd.int .i64) 3 w' w.heap.size (fun _ => True) v1_ r2 ∧ Below w.heap.size w w' := by
 have hu24 := Try.underlying24
 have HR0_0 := aM_ hr0_0
 have HC0_0 := aM_ hc0_0
 clear hr0_0 hc0_0
 have HR1 := aM_ hr1
 have HC1 := aM_ hc1
 clear hr1 hc1
 have HB := aM_ (Below.refl w.heap.size w)
 have H : (if 0 ≤ a2 then (if a2 < (l0_0.length : Int) then ((spec_l1Max.f a3 0).bind fun t264 => (if a2 < (l1.length : Int) then ((spec_l1Max.f (wrap64 ((wrap64 (((rd_L4 l0_0 a2).length : Int) - 1)) - t264)) (rd l1 a2)).bind fun t266 => ((some (([] : List Int) : List Int)).bind fun y267 => (if y267.length + l1.length < 17592186044416 then ((some (y267 ++ l1 : List Int)).bind fun y270 => (if a2 < (y270.length : Int) then ((some (y270.set (a2 : Int).toNat t266 : List Int)).bind fun y273 => (if a4 = true then (if 0 ≤ t266 then (if t266 < ((rd_L4 l0_0 a2).length : Int) then ((spec_Join.f k y273 ((rd_T43 (rd_L4 l0_0 a2) t266).f1)).bind fun t275 => (some ((rd_T43 (rd_L4 l0_0 a2) t266).f0,t275))) else (none)) else (none)) else (if 0 ≤ t266 then (if t266 < ((rd_L4 l0_0 a2).length : Int) then (some ((rd_T43 (rd_L4 l0_0 a2) t266).f0,y273)) else (none)) else (none)))) else (none))) else (none)))) else (none))) else (none)) else (none)) = some (r1,r2) := h
 clear h
 by_cases c6 : 0 ≤ a2
 ·rw [if_pos c6] at H
  have c6b0 : decide (0 ≤ a2) = true := decide_eq_true c6
  clear c6
  by_cases c7 : a2 < (l0_0.length : Int)
  ·rw [if_pos c7] at H
   have c7b0 : decide (a2 < (l0_0.length : Int)) = true := decide_eq_true c7
   clear c7
   replace H := Option.bind_eq_some_iff.mp H
   obtain ⟨t264,A80,H⟩ := H
   replace H : (if a2 < (l1.length : Int) then ((spec_l1Max.f (wrap64 ((wrap64 (((rd_L4 l0_0 a2).length : Int) - 1)) - t264)) (rd l1 a2)).bind fun t266 => ((some (([] : List Int) : List Int)).bind fun y267 => (if y267.length + l1.length < 17592186044416 then ((some (y267 ++ l1 : List Int)).bind fun y270 => (if a2 < (y270.length : Int) then ((some (y270.set (a2 : Int).toNat t266 : List Int)).bind fun y273 => (if a4 = true then (if 0 ≤ t266 then (if t266 < ((rd_L4 l0_0 a2).length : Int) then ((spec_Join.f k y273 ((rd_T43 (rd_L4 l0_0 a2) t266).f1)).bind fun t275 => (some ((rd_T43 (rd_L4 l0_0 a2) t266).f0,t275))) else (none)) else (none)) else (if 0 ≤ t266 then (if t266 < ((rd_L4 l0_0 a2).length : Int) then (some ((rd_T43 (rd_L4 l0_0 a2) t266).f0,y273)) else (none)) else (none)))) else (none))) else (none)))) else (none)) = some (r1,r2) := H
   have A8 := aM_ A80
   clear A80
   by_cases c9 : a2 < (l1.length : Int)
   ·rw [if_pos c9] at H
    have c9b0 : decide (a2 < (l1.length : Int)) = true := decide_eq_true c9
    clear c9
    replace H := Option.bind_eq_some_iff.mp H
    obtain ⟨t266,A100,H⟩ := H
    replace H : ((some (([] : List Int) : List Int)).bind fun y267 => (if y267.length + l1.length < 17592186044416 then ((some (y267 ++ l1 : List Int)).bind fun y270 => (if a2 < (y270.length : Int) then ((some (y270.set (a2 : Int).toNat t266 : List Int)).bind fun y273 => (if a4 = true then (if 0 ≤ t266 then (if t266 < ((rd_L4 l0_0 a2).length : Int) then ((spec_Join.f k y273 ((rd_T43 (rd_L4 l0_0 a2) t266).f1)).bind fun t275 => (some ((rd_T43 (rd_L4 l0_0 a2) t266).f0,t275))) else (none)) else (none)) else (if 0 ≤ t266 then (if t266 < ((rd_L4 l0_0 a2).length : Int) then (some ((rd_T43 (rd_L4 l0_0 a2) t266).f0,y273)) else (none)) else (none)))) else (none))) else (none))) = some (r1,r2) := H
    have A10 := aM_ A100
    clear A100
    obtain ⟨y267,hy267⟩ : ∃ y_ : List Int,y_ = (([] : List Int)) := ⟨_,rfl⟩
    replace H : (if y267.length + l1.length < 17592186044416 then ((some (y267 ++ l1 : List Int)).bind fun y270 => (if a2 < (y270.length : Int) then ((some (y270.set (a2 : Int).toNat t266 : List Int)).bind fun y273 => (if a4 = true then (if 0 ≤ t266 then (if t266 < ((rd_L4 l0_0 a2).length : Int) then ((spec_Join.f k y273 ((rd_T43 (rd_L4 l0_0 a2) t266).f1)).bind fun t275 => (some ((rd_T43 (rd_L4 l0_0 a2) t266).f0,t275))) else (none)) else (none)) else (if 0 ≤ t266 then (if t266 < ((rd_L4 l0_0 a2).length : Int) then (some ((rd_T43 (rd_L4 l0_0 a2) t266).f0,y273)) else (none)) else (none)))) else (none))) else (none)) = some (r1,r2) := by first | (rw [hy267];with_reducible exact H) | (have H2_ := (Option.bind_some _ _).symm.trans H;rw [hy267];with_reducible exact H2_) | (have H2_ := (Option.bind_some _ _).symm.trans H;with_reducible exact H2_) | with_reducible exact H | (rw [hy267];exact H) | exact H
    have Ny267 := aM_ hy267
    clear hy267
    by_cases c11 : y267.length + l1.length < 17592186044416
    ·rw [if_pos c11] at H
     have LMc11 := aM_ c11
     clear c11
     obtain ⟨y270,hy270⟩ : ∃ y_ : List Int,y_ = (y267 ++ l1) := ⟨_,rfl⟩
     replace H : (if a2 < (y270.length : Int) then ((some (y270.set (a2 : Int).toNat t266 : List Int)).bind fun y273 => (if a4 = true then (if 0 ≤ t266 then (if t266 < ((rd_L4 l0_0 a2).length : Int) then ((spec_Join.f k y273 ((rd_T43 (rd_L4 l0_0 a2) t266).f1)).bind fun t275 => (some ((rd_T43 (rd_L4 l0_0 a2) t266).f0,t275))) else (none)) else (none)) else (if 0 ≤ t266 then (if t266 < ((rd_L4 l0_0 a2).length : Int) then (some ((rd_T43 (rd_L4 l0_0 a2) t266).f0,y273)) else (none)) else (none)))) else (none)) = some (r1,r2) := by first | (rw [hy270];with_reducible exact H) | (have H2_ := (Option.bind_some _ _).symm.trans H;rw [hy270];with_reducible exact H2_) | (have H2_ := (Option.bind_some _ _).symm.trans H;with_reducible exact H2_) | with_reducible exact H | (rw [hy270];exact H) | exact H
     have Ny270 := aM_ hy270
     clear hy270
     by_cases c12 : a2 < (y270.length : Int)
     ·rw [if_pos c12] at H
      have c12b0 : decide (a2 < (y270.length : Int)) = true := decide_eq_true c12
      clear c12
      obtain ⟨y273,hy273⟩ : ∃ y_ : List Int,y_ = (y270.set (a2 : Int).toNat t266) := ⟨_,rfl⟩
      replace H : (if a4 = true then (if 0 ≤ t266 then (if t266 < ((rd_L4 l0_0 a2).length : Int) then ((spec_Join.f k y273 ((rd_T43 (rd_L4 l0_0 a2) t266).f1)).bind fun t275 => (some ((rd_T43 (rd_L4 l0_0 a2) t266).f0,t275))) else (none)) else (none)) else (if 0 ≤ t266 then (if t266 < ((rd_L4 l0_0 a2).length : Int) then (some ((rd_T43 (rd_L4 l0_0 a2) t266).f0,y273)) else (none)) else (none))) = some (r1,r2) := by first | (rw [hy273];with_reducible exact H) | (have H2_ := (Option.bind_some _ _).symm.trans H;rw [hy273];with_reducible exact H2_) | (have H2_ := (Option.bind_some _ _).symm.trans H;with_reducible exact H2_) | with_reducible exact H | (rw [hy273];exact H) | exact H
      have Ny273 := aM_ hy273
      clear hy273
      by_cases c14 : a4 = true
      ·subst c14
       have H1 : (if 0 ≤ t266 then (if t266 < ((rd_L4 l0_0 a2).length : Int) then ((spec_Join.f k y273 ((rd_T43 (rd_L4 l0_0 a2) t266).f1)).bind fun t275 => (some ((rd_T43 (rd_L4 l0_0 a2) t266).f0,t275))) else (none)) else (none)) = some (r1,r2) := by rw [if_pos rfl] at H;exact H
       clear H
       have H := H1
       clear H1
       by_cases c15 : 0 ≤ t266
       ·rw [if_pos c15] at H
        have c15b0 : decide (0 ≤ t266) = true := decide_eq_true c15
        clear c15
        by_cases c16 : t266 < ((rd_L4 l0_0 a2).length : Int)
        ·rw [if_pos c16] at H
         have c16b0 : decide (t266 < ((rd_L4 l0_0 a2).length : Int)) = true := decide_eq_true c16
         clear c16
         replace H := Option.bind_eq_some_iff.mp H
         obtain ⟨t275,A170,H⟩ := H
         replace H : (some ((rd_T43 (rd_L4 l0_0 a2) t266).f0,t275)) = some (r1,r2) := H
         have A17 := aM_ A170
         clear A170
         simp only [Option.some.injEq,Prod.mk.injEq] at H
         obtain ⟨rfl,rfl⟩ := H
         go_enter Try.func62,Try.ntmps62
         go_wp2_with (first | ((with_reducible refine gate_dst (N := 5) rfl ?_);refine bX_ 5 (cs := #[.slice A0_0 l0_0.length c0_0]) (t := 24) ?_;intro gb262 hg w18 hbox hb;have n0 := aM_ (sT_ HB.out hb);have n1 := aM_ (hbox);have n2 := aM_ (sZ_ hg HB.out);have n3 := aM_ (sZ_ hg HB.out);clear HB;have HB := n0;have BK262 := n1;have GW262 := n2;have GE262 := n3;clear n0 n1 n2 n3;clear hb hbox hg;have hcz19_0 : w18.cell? ⟨gb262,0,none⟩ = some (.slice A0_0 l0_0.length c0_0) := (blk_cell BK262.out 0).trans rfl;have hfz19_0 := blk_frozen BK262.out 0;have p263 : 0 ≤ (a2 : Int) := of_decide_eq_true (by first | (with_reducible assumption) | assumption);have q263 : a2 < (l0_0.length : Int) := of_decide_eq_true (by first | (with_reducible assumption) | assumption);obtain ⟨ad263,A263_0,c263_0,e263,hx263_0,hl263_0,hi263_0⟩ := at_L4 HR0_0.out a2 p263 q263;cases e263;replace hx263_0 := cB_ HB.out hx263_0;have HR263_0 := aM_ hi263_0;have HC263_0 := aM_ hl263_0;clear hi263_0 hl263_0;replace p263 := eq_true p263;replace q263 := eq_true q263;have p265 : 0 ≤ (a2 : Int) := of_decide_eq_true (by first | (with_reducible assumption) | assumption);have q265 : a2 < (l1.length : Int) := of_decide_eq_true (by first | (with_reducible assumption) | assumption);obtain ⟨ad265,e265,hx265_0⟩ := Kd.at_int HR1.out a2 p265 q265;cases e265;replace hx265_0 := cB_ HB.out hx265_0;replace p265 := eq_true p265;replace q265 := eq_true q265) | (go_at_call 95;(with_reducible refine (spec_l1Max.calls a3 0 t264 _ A8.out).mono ?_);rintro e w' ⟨rfl,⟨nd,rfl⟩⟩;(try first | exact ⟨rfl,_,World.drewN_drewN _ _ _⟩ | exact ⟨rfl,_,Eq.trans (World.drewN_drewN _ _ _) (congrArg (World.drewN _) (Nat.add_assoc _ _ _))⟩)) | (go_at_call 95;(with_reducible refine (spec_l1Max.calls (wrap64 ((wrap64 (((rd_L4 l0_0 a2).length : Int) - 1)) - t264)) (rd l1 a2) t266 _ A10.out).mono ?_);rintro e w' ⟨rfl,⟨nd,rfl⟩⟩;(try first | exact ⟨rfl,_,World.drewN_drewN _ _ _⟩ | exact ⟨rfl,_,Eq.trans (World.drewN_drewN _ _ _) (congrArg (World.drewN _) (Nat.add_assoc _ _ _))⟩)) | ((with_reducible refine gate_dst (N := 31) rfl ?_);refine Kd.R_lit (Kd.int .i64) _ 3 ?hg (N := 31) ?hd (xs := ([] : List Int)) (inner := []) (ok := fun _ => True) (okp := fun _ => True) ?hr ?hp (fun _ hk => hk) trivial (Below.refl _ _) (Nat.le_refl _) (by simp) ?_;(case hd => rfl);(case hg => rfl);(case hr => first | (go_simp;done) | (go_simp;rfl));(case hp => exact (Reps.none _ _));intro v268 w20 ho21 hb hg_ hnew_;clear hg_ hnew_;(first | rw [← Ny267.out] at ho21 | (simp only [Int.reduceToNat] at ho21;rw [← Ny267.out] at ho21));have n0 := aM_ (Kd.R_lower ho21 (below_size (gB_ HB.out)));have n1 := aM_ (nB_ BK262.out hb);have n2 := aM_ (sT_ HB.out hb);clear BK262;clear HB;have HO269 := n0;have BK262 := n1;have HB := n2;clear n0 n1 n2;clear hb ho21) | ((with_reducible refine gate_builtin (b := .append) (xs := #[.tmp 31,.tmp 32]) rfl ?_);at_builtin;refine Kd.R_append_rows (Kd.int .i64) (w0 := w) w.heap.size rfl (.tmp 31) (.tmp 32) 31 3 (.int .i64 0) 8 rfl Try.underlying31 info3 rfl (by decide) (by omega) v268 y267 l1 _ _ _ (fun _ => True) (fun _ => False) rfl rfl ?aO ?aR (fun _ _ h => h) (fun _ h => h.elim) ?aF ?aB ?aS ?aL ?_;(case aR => repeat (first | exact (Kd.C_below HR1.out HB.out) | (with_reducible refine Kd.C_alloc ?_ _) | (with_reducible refine Kd.C_drewN ?_ _) | (with_reducible refine Kd.C_drew ?_)));(case aB => exact (gB_ HB.out));(case aF => exact (fun _ _ => trivial));(case aO => exact (by (with_reducible repeat (first | apply rA_ | apply rN_ | apply rD_));exact HO269.out));(case aS => exact (below_size (gB_ HB.out)));(case aL => have := LMc11.out;omega);intro v271 w22 ho hb hg hat;rw [← Ny270.out] at ho;have n0 := aM_ (blk_grown (g := gb262) (o := .cells #[.slice (some ad263) l0_0.length c0_0] 24 (0,0)) (by (with_reducible repeat (first | refine bN_ ?_ _ | refine bD_ ?_ | refine bA_ ?_ _));exact BK262.out) hg (Kd.R_ne HO269.out BK262.out (by decide)));have n1 := aM_ (hb);have n2 := aM_ (ho);clear BK262;clear HB;clear HO269;have BK262 := n0;have HB := n1;have HO272 := n2;clear n0 n1 n2;clear ho hb hg hat;have p13 : 0 ≤ (a2 : Int) := of_decide_eq_true (by first | (with_reducible assumption) | assumption);have q13 : (a2 : Int) < ((y270.length : Int) : Int) := of_decide_eq_true (by first | (with_reducible assumption) | assumption);obtain ⟨go13,co13,eo13,gb13,gl13,cl13,HG13⟩ := Kd.R_form HO272.out (by omega);(first | cases eo13 | (injection eo13 with ea_ en_ ec_;(first | subst ea_ | (injection ea_ with ea_;subst ea_));subst ec_;clear en_));have GB13 := aM_ gb13;have GG13 := aM_ HG13;clear gb13 gl13 HG13;obtain ⟨hx13_0,hf13_0⟩ := Kd.R_celln 0 HO272.out (a2 : Int) p13 q13;replace p13 := eq_true p13;replace q13 := eq_true q13;obtain ⟨hy23_,hz23_⟩ := Kd.R_celln 0 HO272.out (a2 : Int) (of_decide_eq_true (by first | (with_reducible assumption) | assumption)) (of_decide_eq_true (by first | (with_reducible assumption) | assumption));have HP23 := Kd.R_putg HO272.out (a2 : Int) t266) | ((with_reducible refine gate_store (t := 3) (p := 37) rfl ?_);(try (rw [drewN_self w22];generalize hq_ : World.drewN w22 _ = w22;have n0 := aM_ (Kd.R_at hq_ HO272.out);have n1 := aM_ (blk_at hq_ BK262.out);have n2 := aM_ (below_at hq_ HB.out);clear hq_ HO272 BK262 HB;have HO272 := n0;have BK262 := n1;have HB := n2;clear n0 n1 n2;(try (obtain ⟨hy23_,hz23_⟩ := Kd.R_celln 0 HO272.out (a2 : Int) (of_decide_eq_true (by first | (with_reducible assumption) | assumption)) (of_decide_eq_true (by first | (with_reducible assumption) | assumption))));(try (have HP23 := Kd.R_putg HO272.out (a2 : Int) t266))));refine store_event (t := 3) (p := 37) (v := ?vo_w24) (w1 := (w22.setCell ⟨go13,(a2 : Int).toNat,none⟩ (.int .i64 t266))) ?hg ?ho ?hn ?hr ?_;(case ho => rfl);(case hg => rfl);(case hn => rfl);(case hr => first | (go_simp;done) | (go_simp;rfl));intro w24 hw;have hg : w22.grownBy w24 (some go13) := (by rw [hw];exact HP23.2);have hp_ : Kd.R (Kd.int .i64) 3 w24 w.heap.size (fun _ => True) (.slice (some ⟨go13,0,none⟩) y270.length co13) y273 := (by rw [hw,Ny273.out];exact HP23.1);clear HP23;have n0 := aM_ (blk_grown (g := gb262) (o := .cells #[.slice (some ad263) l0_0.length c0_0] 24 (0,0)) (by (with_reducible repeat (first | refine bN_ ?_ _ | refine bD_ ?_ | refine bA_ ?_ _));exact BK262.out) hg (Kd.R_ne HO272.out BK262.out (by decide)));have n1 := aM_ (hp_);have n2 := aM_ ((by rw [hw];exact below_set (HB.out) GB13.out : Below w.heap.size w w24));clear BK262;clear HO272;clear HB;have BK262 := n0;have HO272 := n1;have HB := n2;clear n0 n1 n2;clear hg hw hp_;have p274 : 0 ≤ (t266 : Int) := of_decide_eq_true (by first | (with_reducible assumption) | assumption);have q274 : t266 < ((rd_L4 l0_0 a2).length : Int) := of_decide_eq_true (by first | (with_reducible assumption) | assumption);obtain ⟨ad274,A274_1,c274_1,e274,hx274_0,hx274_1,hl274_1,hi274_1⟩ := at_T43 HR263_0.out t266 p274 q274;cases e274;replace hx274_0 := cB_ HB.out hx274_0;replace hx274_1 := cB_ HB.out hx274_1;have HR274_1 := aM_ hi274_1;have HC274_1 := aM_ hl274_1;clear hi274_1 hl274_1;replace p274 := eq_true p274;replace q274 := eq_true q274) | (go_at_call 96;refine calls_of_args (args' := #[.slice (some ⟨go13,0,none⟩) y273.length co13,.slice A274_1 ((rd_T43 (rd_L4 l0_0 a2) t266).f1).length c274_1]) (by first | (rw [show y273.length = y270.length from (Kd.R_reads' HO272.out).1.symm] <;> rfl) | rfl) ?_;(with_reducible refine (spec_Join.calls k _ _ y273 _ _ ((rd_T43 (rd_L4 l0_0 a2) t266).f1) t275 _ ?side1 ?side2 ?side3 ?side4 A17.out).mono ?_);(case side1 => exact cS_ (Kd.R_reads' HO272.out).2.2);(case side2 => rw [show y273.length = y270.length from (Kd.R_reads' HO272.out).1.symm];exact (Kd.R_reads' HO272.out).2.1);(case side3 => exact cS_ (Kd.C_below HR274_1.out HB.out));(case side4 => exact HC274_1.out);rintro e w25 ⟨v276,rfl,ho0,hb⟩;have n0 := aM_ (Kd.R_elder' (by (with_reducible repeat (first | apply rA_ | apply rN_ | apply rD_));exact HO272.out) (Kd.R_base ho0) hb);have n1 := aM_ (Kd.R_lower (Kd.R_new' ho0 (Kd.R_lt (by (with_reducible repeat (first | apply rA_ | apply rN_ | apply rD_));exact HO272.out))) (below_size (gB_ HB.out)));have n2 := aM_ (nB_ BK262.out hb);have n3 := aM_ (sT_ HB.out hb);clear HO272;clear BK262;clear HB;have HO272 := n0;have HO277 := n1;have BK262 := n2;have HB := n3;clear n0 n1 n2 n3;(try clear ho0);have p278 : 0 ≤ (t266 : Int) := of_decide_eq_true (by first | (with_reducible assumption) | assumption);have q278 : t266 < ((rd_L4 l0_0 a2).length : Int) := of_decide_eq_true (by first | (with_reducible assumption) | assumption);obtain ⟨ad278,A278_1,c278_1,e278,hx278_0,hx278_1,hl278_1,hi278_1⟩ := at_T43 HR263_0.out t266 p278 q278;obtain rfl : ad274 = ad278 := (by injection e278);replace hx278_0 := cB_ HB.out hx278_0;replace hx278_1 := cB_ HB.out hx278_1;have HR278_1 := aM_ hi278_1;have HC278_1 := aM_ hl278_1;clear hi278_1 hl278_1;replace p278 := eq_true p278;replace q278 := eq_true q278))
         repeat (go_quiet (first | ((with_reducible refine gate_dst (N := 5) rfl ?_);refine bX_ 5 (cs := #[.slice A0_0 l0_0.length c0_0]) (t := 24) ?_;intro gb262 hg w18 hbox hb;have n0 := aM_ (sT_ HB.out hb);have n1 := aM_ (hbox);have n2 := aM_ (sZ_ hg HB.out);have n3 := aM_ (sZ_ hg HB.out);clear HB;have HB := n0;have BK262 := n1;have GW262 := n2;have GE262 := n3;clear n0 n1 n2 n3;clear hb hbox hg;have hcz19_0 : w18.cell? ⟨gb262,0,none⟩ = some (.slice A0_0 l0_0.length c0_0) := (blk_cell BK262.out 0).trans rfl;have hfz19_0 := blk_frozen BK262.out 0;have p263 : 0 ≤ (a2 : Int) := of_decide_eq_true (by first | (with_reducible assumption) | assumption);have q263 : a2 < (l0_0.length : Int) := of_decide_eq_true (by first | (with_reducible assumption) | assumption);obtain ⟨ad263,A263_0,c263_0,e263,hx263_0,hl263_0,hi263_0⟩ := at_L4 HR0_0.out a2 p263 q263;cases e263;replace hx263_0 := cB_ HB.out hx263_0;have HR263_0 := aM_ hi263_0;have HC263_0 := aM_ hl263_0;clear hi263_0 hl263_0;replace p263 := eq_true p263;replace q263 := eq_true q263;have p265 : 0 ≤ (a2 : Int) := of_decide_eq_true (by first | (with_reducible assumption) | assumption);have q265 : a2 < (l1.length : Int) := of_decide_eq_true (by first | (with_reducible assumption) | assumption);obtain ⟨ad265,e265,hx265_0⟩ := Kd.at_int HR1.out a2 p265 q265;cases e265;replace hx265_0 := cB_ HB.out hx265_0;replace p265 := eq_true p265;replace q265 := eq_true q265) | (go_at_call 95;(with_reducible refine (spec_l1Max.calls a3 0 t264 _ A8.out).mono ?_);rintro e w' ⟨rfl,⟨nd,rfl⟩⟩;(try first | exact ⟨rfl,_,World.drewN_drewN _ _ _⟩ | exact ⟨rfl,_,Eq.trans (World.drewN_drewN _ _ _) (congrArg (World.drewN _) (Nat.add_assoc _ _ _))⟩)) | (go_at_call 95;(with_reducible refine (spec_l1Max.calls (wrap64 ((wrap64 (((rd_L4 l0_0 a2).length : Int) - 1)) - t264)) (rd l1 a2) t266 _ A10.out).mono ?_);rintro e w' ⟨rfl,⟨nd,rfl⟩⟩;(try first | exact ⟨rfl,_,World.drewN_drewN _ _ _⟩ | exact ⟨rfl,_,Eq.trans (World.drewN_drewN _ _ _) (congrArg (World.drewN _) (Nat.add_assoc _ _ _))⟩)) | ((with_reducible refine gate_dst (N := 31) rfl ?_);refine Kd.R_lit (Kd.int .i64) _ 3 ?hg (N := 31) ?hd (xs := ([] : List Int)) (inner := []) (ok := fun _ => True) (okp := fun _ => True) ?hr ?hp (fun _ hk => hk) trivial (Below.refl _ _) (Nat.le_refl _) (by simp) ?_;(case hd => rfl);(case hg => rfl);(case hr => first | (go_simp;done) | (go_simp;rfl));(case hp => exact (Reps.none _ _));intro v268 w20 ho21 hb hg_ hnew_;clear hg_ hnew_;(first | rw [← Ny267.out] at ho21 | (simp only [Int.reduceToNat] at ho21;rw [← Ny267.out] at ho21));have n0 := aM_ (Kd.R_lower ho21 (below_size (gB_ HB.out)));have n1 := aM_ (nB_ BK262.out hb);have n2 := aM_ (sT_ HB.out hb);clear BK262;clear HB;have HO269 := n0;have BK262 := n1;have HB := n2;clear n0 n1 n2;clear hb ho21) | ((with_reducible refine gate_builtin (b := .append) (xs := #[.tmp 31,.tmp 32]) rfl ?_);at_builtin;refine Kd.R_append_rows (Kd.int .i64) (w0 := w) w.heap.size rfl (.tmp 31) (.tmp 32) 31 3 (.int .i64 0) 8 rfl Try.underlying31 info3 rfl (by decide) (by omega) v268 y267 l1 _ _ _ (fun _ => True) (fun _ => False) rfl rfl ?aO ?aR (fun _ _ h => h) (fun _ h => h.elim) ?aF ?aB ?aS ?aL ?_;(case aR => repeat (first | exact (Kd.C_below HR1.out HB.out) | (with_reducible refine Kd.C_alloc ?_ _) | (with_reducible refine Kd.C_drewN ?_ _) | (with_reducible refine Kd.C_drew ?_)));(case aB => exact (gB_ HB.out));(case aF => exact (fun _ _ => trivial));(case aO => exact (by (with_reducible repeat (first | apply rA_ | apply rN_ | apply rD_));exact HO269.out));(case aS => exact (below_size (gB_ HB.out)));(case aL => have := LMc11.out;omega);intro v271 w22 ho hb hg hat;rw [← Ny270.out] at ho;have n0 := aM_ (blk_grown (g := gb262) (o := .cells #[.slice (some ad263) l0_0.length c0_0] 24 (0,0)) (by (with_reducible repeat (first | refine bN_ ?_ _ | refine bD_ ?_ | refine bA_ ?_ _));exact BK262.out) hg (Kd.R_ne HO269.out BK262.out (by decide)));have n1 := aM_ (hb);have n2 := aM_ (ho);clear BK262;clear HB;clear HO269;have BK262 := n0;have HB := n1;have HO272 := n2;clear n0 n1 n2;clear ho hb hg hat;have p13 : 0 ≤ (a2 : Int) := of_decide_eq_true (by first | (with_reducible assumption) | assumption);have q13 : (a2 : Int) < ((y270.length : Int) : Int) := of_decide_eq_true (by first | (with_reducible assumption) | assumption);obtain ⟨go13,co13,eo13,gb13,gl13,cl13,HG13⟩ := Kd.R_form HO272.out (by omega);(first | cases eo13 | (injection eo13 with ea_ en_ ec_;(first | subst ea_ | (injection ea_ with ea_;subst ea_));subst ec_;clear en_));have GB13 := aM_ gb13;have GG13 := aM_ HG13;clear gb13 gl13 HG13;obtain ⟨hx13_0,hf13_0⟩ := Kd.R_celln 0 HO272.out (a2 : Int) p13 q13;replace p13 := eq_true p13;replace q13 := eq_true q13;obtain ⟨hy23_,hz23_⟩ := Kd.R_celln 0 HO272.out (a2 : Int) (of_decide_eq_true (by first | (with_reducible assumption) | assumption)) (of_decide_eq_true (by first | (with_reducible assumption) | assumption));have HP23 := Kd.R_putg HO272.out (a2 : Int) t266) | ((with_reducible refine gate_store (t := 3) (p := 37) rfl ?_);(try (rw [drewN_self w22];generalize hq_ : World.drewN w22 _ = w22;have n0 := aM_ (Kd.R_at hq_ HO272.out);have n1 := aM_ (blk_at hq_ BK262.out);have n2 := aM_ (below_at hq_ HB.out);clear hq_ HO272 BK262 HB;have HO272 := n0;have BK262 := n1;have HB := n2;clear n0 n1 n2;(try (obtain ⟨hy23_,hz23_⟩ := Kd.R_celln 0 HO272.out (a2 : Int) (of_decide_eq_true (by first | (with_reducible assumption) | assumption)) (of_decide_eq_true (by first | (with_reducible assumption) | assumption))));(try (have HP23 := Kd.R_putg HO272.out (a2 : Int) t266))));refine store_event (t := 3) (p := 37) (v := ?vo_w24) (w1 := (w22.setCell ⟨go13,(a2 : Int).toNat,none⟩ (.int .i64 t266))) ?hg ?ho ?hn ?hr ?_;(case ho => rfl);(case hg => rfl);(case hn => rfl);(case hr => first | (go_simp;done) | (go_simp;rfl));intro w24 hw;have hg : w22.grownBy w24 (some go13) := (by rw [hw];exact HP23.2);have hp_ : Kd.R (Kd.int .i64) 3 w24 w.heap.size (fun _ => True) (.slice (some ⟨go13,0,none⟩) y270.length co13) y273 := (by rw [hw,Ny273.out];exact HP23.1);clear HP23;have n0 := aM_ (blk_grown (g := gb262) (o := .cells #[.slice (some ad263) l0_0.length c0_0] 24 (0,0)) (by (with_reducible repeat (first | refine bN_ ?_ _ | refine bD_ ?_ | refine bA_ ?_ _));exact BK262.out) hg (Kd.R_ne HO272.out BK262.out (by decide)));have n1 := aM_ (hp_);have n2 := aM_ ((by rw [hw];exact below_set (HB.out) GB13.out : Below w.heap.size w w24));clear BK262;clear HO272;clear HB;have BK262 := n0;have HO272 := n1;have HB := n2;clear n0 n1 n2;clear hg hw hp_;have p274 : 0 ≤ (t266 : Int) := of_decide_eq_true (by first | (with_reducible assumption) | assumption);have q274 : t266 < ((rd_L4 l0_0 a2).length : Int) := of_decide_eq_true (by first | (with_reducible assumption) | assumption);obtain ⟨ad274,A274_1,c274_1,e274,hx274_0,hx274_1,hl274_1,hi274_1⟩ := at_T43 HR263_0.out t266 p274 q274;cases e274;replace hx274_0 := cB_ HB.out hx274_0;replace hx274_1 := cB_ HB.out hx274_1;have HR274_1 := aM_ hi274_1;have HC274_1 := aM_ hl274_1;clear hi274_1 hl274_1;replace p274 := eq_true p274;replace q274 := eq_true q274) | (go_at_call 96;refine calls_of_args (args' := #[.slice (some ⟨go13,0,none⟩) y273.length co13,.slice A274_1 ((rd_T43 (rd_L4 l0_0 a2) t266).f1).length c274_1]) (by first | (rw [show y273.length = y270.length from (Kd.R_reads' HO272.out).1.symm] <;> rfl) | rfl) ?_;(with_reducible refine (spec_Join.calls k _ _ y273 _ _ ((rd_T43 (rd_L4 l0_0 a2) t266).f1) t275 _ ?side1 ?side2 ?side3 ?side4 A17.out).mono ?_);(case side1 => exact cS_ (Kd.R_reads' HO272.out).2.2);(case side2 => rw [show y273.length = y270.length from (Kd.R_reads' HO272.out).1.symm];exact (Kd.R_reads' HO272.out).2.1);(case side3 => exact cS_ (Kd.C_below HR274_1.out HB.out));(case side4 => exact HC274_1.out);rintro e w25 ⟨v276,rfl,ho0,hb⟩;have n0 := aM_ (Kd.R_elder' (by (with_reducible repeat (first | apply rA_ | apply rN_ | apply rD_));exact HO272.out) (Kd.R_base ho0) hb);have n1 := aM_ (Kd.R_lower (Kd.R_new' ho0 (Kd.R_lt (by (with_reducible repeat (first | apply rA_ | apply rN_ | apply rD_));exact HO272.out))) (below_size (gB_ HB.out)));have n2 := aM_ (nB_ BK262.out hb);have n3 := aM_ (sT_ HB.out hb);clear HO272;clear BK262;clear HB;have HO272 := n0;have HO277 := n1;have BK262 := n2;have HB := n3;clear n0 n1 n2 n3;(try clear ho0);have p278 : 0 ≤ (t266 : Int) := of_decide_eq_true (by first | (with_reducible assumption) | assumption);have q278 : t266 < ((rd_L4 l0_0 a2).length : Int) := of_decide_eq_true (by first | (with_reducible assumption) | assumption);obtain ⟨ad278,A278_1,c278_1,e278,hx278_0,hx278_1,hl278_1,hi278_1⟩ := at_T43 HR263_0.out t266 p278 q278;obtain rfl : ad274 = ad278 := (by injection e278);replace hx278_0 := cB_ HB.out hx278_0;replace hx278_1 := cB_ HB.out hx278_1;have HR278_1 := aM_ hi278_1;have HC278_1 := aM_ hl278_1;clear hi278_1 hl278_1;replace p278 := eq_true p278;replace q278 := eq_true q278));try go_wp2_with (first | ((with_reducible refine gate_dst (N := 5) rfl ?_);refine bX_ 5 (cs := #[.slice A0_0 l0_0.length c0_0]) (t := 24) ?_;intro gb262 hg w18 hbox hb;have n0 := aM_ (sT_ HB.out hb);have n1 := aM_ (hbox);have n2 := aM_ (sZ_ hg HB.out);have n3 := aM_ (sZ_ hg HB.out);clear HB;have HB := n0;have BK262 := n1;have GW262 := n2;have GE262 := n3;clear n0 n1 n2 n3;clear hb hbox hg;have hcz19_0 : w18.cell? ⟨gb262,0,none⟩ = some (.slice A0_0 l0_0.length c0_0) := (blk_cell BK262.out 0).trans rfl;have hfz19_0 := blk_frozen BK262.out 0;have p263 : 0 ≤ (a2 : Int) := of_decide_eq_true (by first | (with_reducible assumption) | assumption);have q263 : a2 < (l0_0.length : Int) := of_decide_eq_true (by first | (with_reducible assumption) | assumption);obtain ⟨ad263,A263_0,c263_0,e263,hx263_0,hl263_0,hi263_0⟩ := at_L4 HR0_0.out a2 p263 q263;cases e263;replace hx263_0 := cB_ HB.out hx263_0;have HR263_0 := aM_ hi263_0;have HC263_0 := aM_ hl263_0;clear hi263_0 hl263_0;replace p263 := eq_true p263;replace q263 := eq_true q263) | (go_at_call 95;(with_reducible refine (spec_l1Max.calls a3 0 t264 _ A8.out).mono ?_);rintro e w' ⟨rfl,⟨nd,rfl⟩⟩;(try first | exact ⟨rfl,_,World.drewN_drewN _ _ _⟩ | exact ⟨rfl,_,Eq.trans (World.drewN_drewN _ _ _) (congrArg (World.drewN _) (Nat.add_assoc _ _ _))⟩);have p265 : 0 ≤ (a2 : Int) := of_decide_eq_true (by first | (with_reducible assumption) | assumption);have q265 : a2 < (l1.length : Int) := of_decide_eq_true (by first | (with_reducible assumption) | assumption);obtain ⟨ad265,e265,hx265_0⟩ := Kd.at_int HR1.out a2 p265 q265;cases e265;replace hx265_0 := cB_ HB.out hx265_0;replace p265 := eq_true p265;replace q265 := eq_true q265) | (go_at_call 95;(with_reducible refine (spec_l1Max.calls (wrap64 ((wrap64 (((rd_L4 l0_0 a2).length : Int) - 1)) - t264)) (rd l1 a2) t266 _ A10.out).mono ?_);rintro e w' ⟨rfl,⟨nd,rfl⟩⟩;(try first | exact ⟨rfl,_,World.drewN_drewN _ _ _⟩ | exact ⟨rfl,_,Eq.trans (World.drewN_drewN _ _ _) (congrArg (World.drewN _) (Nat.add_assoc _ _ _))⟩)) | ((with_reducible refine gate_dst (N := 31) rfl ?_);refine Kd.R_lit (Kd.int .i64) _ 3 ?hg (N := 31) ?hd (xs := ([] : List Int)) (inner := []) (ok := fun _ => True) (okp := fun _ => True) ?hr ?hp (fun _ hk => hk) trivial (Below.refl _ _) (Nat.le_refl _) (by simp) ?_;(case hd => rfl);(case hg => rfl);(case hr => first | (go_simp;done) | (go_simp;rfl));(case hp => exact (Reps.none _ _));intro v268 w20 ho21 hb hg_ hnew_;clear hg_ hnew_;(first | rw [← Ny267.out] at ho21 | (simp only [Int.reduceToNat] at ho21;rw [← Ny267.out] at ho21));have n0 := aM_ (Kd.R_lower ho21 (below_size (gB_ HB.out)));have n1 := aM_ (nB_ BK262.out hb);have n2 := aM_ (sT_ HB.out hb);clear BK262;clear HB;have HO269 := n0;have BK262 := n1;have HB := n2;clear n0 n1 n2;clear hb ho21) | ((with_reducible refine gate_builtin (b := .append) (xs := #[.tmp 31,.tmp 32]) rfl ?_);at_builtin;refine Kd.R_append_rows (Kd.int .i64) (w0 := w) w.heap.size rfl (.tmp 31) (.tmp 32) 31 3 (.int .i64 0) 8 rfl Try.underlying31 info3 rfl (by decide) (by omega) v268 y267 l1 _ _ _ (fun _ => True) (fun _ => False) rfl rfl ?aO ?aR (fun _ _ h => h) (fun _ h => h.elim) ?aF ?aB ?aS ?aL ?_;(case aR => repeat (first | exact (Kd.C_below HR1.out HB.out) | (with_reducible refine Kd.C_alloc ?_ _) | (with_reducible refine Kd.C_drewN ?_ _) | (with_reducible refine Kd.C_drew ?_)));(case aB => exact (gB_ HB.out));(case aF => exact (fun _ _ => trivial));(case aO => exact (by (with_reducible repeat (first | apply rA_ | apply rN_ | apply rD_));exact HO269.out));(case aS => exact (below_size (gB_ HB.out)));(case aL => have := LMc11.out;omega);intro v271 w22 ho hb hg hat;rw [← Ny270.out] at ho;have n0 := aM_ (blk_grown (g := gb262) (o := .cells #[.slice (some ad263) l0_0.length c0_0] 24 (0,0)) (by (with_reducible repeat (first | refine bN_ ?_ _ | refine bD_ ?_ | refine bA_ ?_ _));exact BK262.out) hg (Kd.R_ne HO269.out BK262.out (by decide)));have n1 := aM_ (hb);have n2 := aM_ (ho);clear BK262;clear HB;clear HO269;have BK262 := n0;have HB := n1;have HO272 := n2;clear n0 n1 n2;clear ho hb hg hat;have p13 : 0 ≤ (a2 : Int) := of_decide_eq_true (by first | (with_reducible assumption) | assumption);have q13 : (a2 : Int) < ((y270.length : Int) : Int) := of_decide_eq_true (by first | (with_reducible assumption) | assumption);obtain ⟨go13,co13,eo13,gb13,gl13,cl13,HG13⟩ := Kd.R_form HO272.out (by omega);(first | cases eo13 | (injection eo13 with ea_ en_ ec_;(first | subst ea_ | (injection ea_ with ea_;subst ea_));subst ec_;clear en_));have GB13 := aM_ gb13;have GG13 := aM_ HG13;clear gb13 gl13 HG13;obtain ⟨hx13_0,hf13_0⟩ := Kd.R_celln 0 HO272.out (a2 : Int) p13 q13;replace p13 := eq_true p13;replace q13 := eq_true q13;obtain ⟨hy23_,hz23_⟩ := Kd.R_celln 0 HO272.out (a2 : Int) (of_decide_eq_true (by first | (with_reducible assumption) | assumption)) (of_decide_eq_true (by first | (with_reducible assumption) | assumption));have HP23 := Kd.R_putg HO272.out (a2 : Int) t266) | ((with_reducible refine gate_store (t := 3) (p := 37) rfl ?_);(try (rw [drewN_self w22];generalize hq_ : World.drewN w22 _ = w22;have n0 := aM_ (Kd.R_at hq_ HO272.out);have n1 := aM_ (blk_at hq_ BK262.out);have n2 := aM_ (below_at hq_ HB.out);clear hq_ HO272 BK262 HB;have HO272 := n0;have BK262 := n1;have HB := n2;clear n0 n1 n2;(try (obtain ⟨hy23_,hz23_⟩ := Kd.R_celln 0 HO272.out (a2 : Int) (of_decide_eq_true (by first | (with_reducible assumption) | assumption)) (of_decide_eq_true (by first | (with_reducible assumption) | assumption))));(try (have HP23 := Kd.R_putg HO272.out (a2 : Int) t266))));refine store_event (t := 3) (p := 37) (v := ?vo_w24) (w1 := (w22.setCell ⟨go13,(a2 : Int).toNat,none⟩ (.int .i64 t266))) ?hg ?ho ?hn ?hr ?_;(case ho => rfl);(case hg => rfl);(case hn => rfl);(case hr => first | (go_simp;done) | (go_simp;rfl));intro w24 hw;have hg : w22.grownBy w24 (some go13) := (by rw [hw];exact HP23.2);have hp_ : Kd.R (Kd.int .i64) 3 w24 w.heap.size (fun _ => True) (.slice (some ⟨go13,0,none⟩) y270.length co13) y273 := (by rw [hw,Ny273.out];exact HP23.1);clear HP23;have n0 := aM_ (blk_grown (g := gb262) (o := .cells #[.slice (some ad263) l0_0.length c0_0] 24 (0,0)) (by (with_reducible repeat (first | refine bN_ ?_ _ | refine bD_ ?_ | refine bA_ ?_ _));exact BK262.out) hg (Kd.R_ne HO272.out BK262.out (by decide)));have n1 := aM_ (hp_);have n2 := aM_ ((by rw [hw];exact below_set (HB.out) GB13.out : Below w.heap.size w w24));clear BK262;clear HO272;clear HB;have BK262 := n0;have HO272 := n1;have HB := n2;clear n0 n1 n2;clear hg hw hp_;have p274 : 0 ≤ (t266 : Int) := of_decide_eq_true (by first | (with_reducible assumption) | assumption);have q274 : t266 < ((rd_L4 l0_0 a2).length : Int) := of_decide_eq_true (by first | (with_reducible assumption) | assumption);obtain ⟨ad274,A274_1,c274_1,e274,hx274_0,hx274_1,hl274_1,hi274_1⟩ := at_T43 HR263_0.out t266 p274 q274;cases e274;replace hx274_0 := cB_ HB.out hx274_0;replace hx274_1 := cB_ HB.out hx274_1;have HR274_1 := aM_ hi274_1;have HC274_1 := aM_ hl274_1;clear hi274_1 hl274_1;replace p274 := eq_true p274;replace q274 := eq_true q274) | (go_at_call 96;refine calls_of_args (args' := #[.slice (some ⟨go13,0,none⟩) y273.length co13,.slice A274_1 ((rd_T43 (rd_L4 l0_0 a2) t266).f1).length c274_1]) (by first | (rw [show y273.length = y270.length from (Kd.R_reads' HO272.out).1.symm] <;> rfl) | rfl) ?_;(with_reducible refine (spec_Join.calls k _ _ y273 _ _ ((rd_T43 (rd_L4 l0_0 a2) t266).f1) t275 _ ?side1 ?side2 ?side3 ?side4 A17.out).mono ?_);(case side1 => exact cS_ (Kd.R_reads' HO272.out).2.2);(case side2 => rw [show y273.length = y270.length from (Kd.R_reads' HO272.out).1.symm];exact (Kd.R_reads' HO272.out).2.1);(case side3 => exact cS_ (Kd.C_below HR274_1.out HB.out));(case side4 => exact HC274_1.out);rintro e w25 ⟨v276,rfl,ho0,hb⟩;have n0 := aM_ (Kd.R_elder' (by (with_reducible repeat (first | apply rA_ | apply rN_ | apply rD_));exact HO272.out) (Kd.R_base ho0) hb);have n1 := aM_ (Kd.R_lower (Kd.R_new' ho0 (Kd.R_lt (by (with_reducible repeat (first | apply rA_ | apply rN_ | apply rD_));exact HO272.out))) (below_size (gB_ HB.out)));have n2 := aM_ (nB_ BK262.out hb);have n3 := aM_ (sT_ HB.out hb);clear HO272;clear BK262;clear HB;have HO272 := n0;have HO277 := n1;have BK262 := n2;have HB := n3;clear n0 n1 n2 n3;(try clear ho0);have p278 : 0 ≤ (t266 : Int) := of_decide_eq_true (by first | (with_reducible assumption) | assumption);have q278 : t266 < ((rd_L4 l0_0 a2).length : Int) := of_decide_eq_true (by first | (with_reducible assumption) | assumption);obtain ⟨ad278,A278_1,c278_1,e278,hx278_0,hx278_1,hl278_1,hi278_1⟩ := at_T43 HR263_0.out t266 p278 q278;obtain rfl : ad274 = ad278 := (by injection e278);replace hx278_0 := cB_ HB.out hx278_0;replace hx278_1 := cB_ HB.out hx278_1;have HR278_1 := aM_ hi278_1;have HC278_1 := aM_ hl278_1;clear hi278_1 hl278_1;replace p278 := eq_true p278;replace q278 := eq_true q278)))
         go_ret2
         exact ⟨_,fR_,by (with_reducible repeat (first | apply rA_ | apply rN_ | apply rD_));exact Kd.R_mono HO277.out (fun _ hk => trivial),gB_ HB.out⟩
        ·rw [if_neg c16] at H
         exact absurd H (by simp)
       ·rw [if_neg c15] at H
        exact absurd H (by simp)
      ·replace c14 := Bool.eq_false_iff.mpr c14
       subst c14
       have H1 : (if 0 ≤ t266 then (if t266 < ((rd_L4 l0_0 a2).length : Int) then (some ((rd_T43 (rd_L4 l0_0 a2) t266).f0,y273)) else (none)) else (none)) = some (r1,r2) := by rw [if_neg (show ¬ (false = true) by decide)] at H;exact H
       clear H
       have H := H1
       clear H1
       by_cases c26 : 0 ≤ t266
       ·rw [if_pos c26] at H
        have c26b0 : decide (0 ≤ t266) = true := decide_eq_true c26
        clear c26
        by_cases c27 : t266 < ((rd_L4 l0_0 a2).length : Int)
        ·rw [if_pos c27] at H
         have c27b0 : decide (t266 < ((rd_L4 l0_0 a2).length : Int)) = true := decide_eq_true c27
         clear c27
         simp only [Option.some.injEq,Prod.mk.injEq] at H
         obtain ⟨rfl,rfl⟩ := H
         go_enter Try.func62,Try.ntmps62
         go_wp2_with (first | ((with_reducible refine gate_dst (N := 5) rfl ?_);refine bX_ 5 (cs := #[.slice A0_0 l0_0.length c0_0]) (t := 24) ?_;intro gb262 hg w28 hbox hb;have n0 := aM_ (sT_ HB.out hb);have n1 := aM_ (hbox);have n2 := aM_ (sZ_ hg HB.out);have n3 := aM_ (sZ_ hg HB.out);clear HB;have HB := n0;have BK262 := n1;have GW262 := n2;have GE262 := n3;clear n0 n1 n2 n3;clear hb hbox hg;have hcz29_0 : w28.cell? ⟨gb262,0,none⟩ = some (.slice A0_0 l0_0.length c0_0) := (blk_cell BK262.out 0).trans rfl;have hfz29_0 := blk_frozen BK262.out 0;have p263 : 0 ≤ (a2 : Int) := of_decide_eq_true (by first | (with_reducible assumption) | assumption);have q263 : a2 < (l0_0.length : Int) := of_decide_eq_true (by first | (with_reducible assumption) | assumption);obtain ⟨ad263,A263_0,c263_0,e263,hx263_0,hl263_0,hi263_0⟩ := at_L4 HR0_0.out a2 p263 q263;cases e263;replace hx263_0 := cB_ HB.out hx263_0;have HR263_0 := aM_ hi263_0;have HC263_0 := aM_ hl263_0;clear hi263_0 hl263_0;replace p263 := eq_true p263;replace q263 := eq_true q263;have p265 : 0 ≤ (a2 : Int) := of_decide_eq_true (by first | (with_reducible assumption) | assumption);have q265 : a2 < (l1.length : Int) := of_decide_eq_true (by first | (with_reducible assumption) | assumption);obtain ⟨ad265,e265,hx265_0⟩ := Kd.at_int HR1.out a2 p265 q265;cases e265;replace hx265_0 := cB_ HB.out hx265_0;replace p265 := eq_true p265;replace q265 := eq_true q265) | (go_at_call 95;(with_reducible refine (spec_l1Max.calls a3 0 t264 _ A8.out).mono ?_);rintro e w' ⟨rfl,⟨nd,rfl⟩⟩;(try first | exact ⟨rfl,_,World.drewN_drewN _ _ _⟩ | exact ⟨rfl,_,Eq.trans (World.drewN_drewN _ _ _) (congrArg (World.drewN _) (Nat.add_assoc _ _ _))⟩)) | (go_at_call 95;(with_reducible refine (spec_l1Max.calls (wrap64 ((wrap64 (((rd_L4 l0_0 a2).length : Int) - 1)) - t264)) (rd l1 a2) t266 _ A10.out).mono ?_);rintro e w' ⟨rfl,⟨nd,rfl⟩⟩;(try first | exact ⟨rfl,_,World.drewN_drewN _ _ _⟩ | exact ⟨rfl,_,Eq.trans (World.drewN_drewN _ _ _) (congrArg (World.drewN _) (Nat.add_assoc _ _ _))⟩)) | ((with_reducible refine gate_dst (N := 31) rfl ?_);refine Kd.R_lit (Kd.int .i64) _ 3 ?hg (N := 31) ?hd (xs := ([] : List Int)) (inner := []) (ok := fun _ => True) (okp := fun _ => True) ?hr ?hp (fun _ hk => hk) trivial (Below.refl _ _) (Nat.le_refl _) (by simp) ?_;(case hd => rfl);(case hg => rfl);(case hr => first | (go_simp;done) | (go_simp;rfl));(case hp => exact (Reps.none _ _));intro v268 w30 ho31 hb hg_ hnew_;clear hg_ hnew_;(first | rw [← Ny267.out] at ho31 | (simp only [Int.reduceToNat] at ho31;rw [← Ny267.out] at ho31));have n0 := aM_ (Kd.R_lower ho31 (below_size (gB_ HB.out)));have n1 := aM_ (nB_ BK262.out hb);have n2 := aM_ (sT_ HB.out hb);clear BK262;clear HB;have HO269 := n0;have BK262 := n1;have HB := n2;clear n0 n1 n2;clear hb ho31) | ((with_reducible refine gate_builtin (b := .append) (xs := #[.tmp 31,.tmp 32]) rfl ?_);at_builtin;refine Kd.R_append_rows (Kd.int .i64) (w0 := w) w.heap.size rfl (.tmp 31) (.tmp 32) 31 3 (.int .i64 0) 8 rfl Try.underlying31 info3 rfl (by decide) (by omega) v268 y267 l1 _ _ _ (fun _ => True) (fun _ => False) rfl rfl ?aO ?aR (fun _ _ h => h) (fun _ h => h.elim) ?aF ?aB ?aS ?aL ?_;(case aR => repeat (first | exact (Kd.C_below HR1.out HB.out) | (with_reducible refine Kd.C_alloc ?_ _) | (with_reducible refine Kd.C_drewN ?_ _) | (with_reducible refine Kd.C_drew ?_)));(case aB => exact (gB_ HB.out));(case aF => exact (fun _ _ => trivial));(case aO => exact (by (with_reducible repeat (first | apply rA_ | apply rN_ | apply rD_));exact HO269.out));(case aS => exact (below_size (gB_ HB.out)));(case aL => have := LMc11.out;omega);intro v271 w32 ho hb hg hat;rw [← Ny270.out] at ho;have n0 := aM_ (blk_grown (g := gb262) (o := .cells #[.slice (some ad263) l0_0.length c0_0] 24 (0,0)) (by (with_reducible repeat (first | refine bN_ ?_ _ | refine bD_ ?_ | refine bA_ ?_ _));exact BK262.out) hg (Kd.R_ne HO269.out BK262.out (by decide)));have n1 := aM_ (hb);have n2 := aM_ (ho);clear BK262;clear HB;clear HO269;have BK262 := n0;have HB := n1;have HO272 := n2;clear n0 n1 n2;clear ho hb hg hat;have p13 : 0 ≤ (a2 : Int) := of_decide_eq_true (by first | (with_reducible assumption) | assumption);have q13 : (a2 : Int) < ((y270.length : Int) : Int) := of_decide_eq_true (by first | (with_reducible assumption) | assumption);obtain ⟨go13,co13,eo13,gb13,gl13,cl13,HG13⟩ := Kd.R_form HO272.out (by omega);(first | cases eo13 | (injection eo13 with ea_ en_ ec_;(first | subst ea_ | (injection ea_ with ea_;subst ea_));subst ec_;clear en_));have GB13 := aM_ gb13;have GG13 := aM_ HG13;clear gb13 gl13 HG13;obtain ⟨hx13_0,hf13_0⟩ := Kd.R_celln 0 HO272.out (a2 : Int) p13 q13;replace p13 := eq_true p13;replace q13 := eq_true q13;obtain ⟨hy33_,hz33_⟩ := Kd.R_celln 0 HO272.out (a2 : Int) (of_decide_eq_true (by first | (with_reducible assumption) | assumption)) (of_decide_eq_true (by first | (with_reducible assumption) | assumption));have HP33 := Kd.R_putg HO272.out (a2 : Int) t266) | ((with_reducible refine gate_store (t := 3) (p := 37) rfl ?_);(try (rw [drewN_self w32];generalize hq_ : World.drewN w32 _ = w32;have n0 := aM_ (Kd.R_at hq_ HO272.out);have n1 := aM_ (blk_at hq_ BK262.out);have n2 := aM_ (below_at hq_ HB.out);clear hq_ HO272 BK262 HB;have HO272 := n0;have BK262 := n1;have HB := n2;clear n0 n1 n2;(try (obtain ⟨hy33_,hz33_⟩ := Kd.R_celln 0 HO272.out (a2 : Int) (of_decide_eq_true (by first | (with_reducible assumption) | assumption)) (of_decide_eq_true (by first | (with_reducible assumption) | assumption))));(try (have HP33 := Kd.R_putg HO272.out (a2 : Int) t266))));refine store_event (t := 3) (p := 37) (v := ?vo_w34) (w1 := (w32.setCell ⟨go13,(a2 : Int).toNat,none⟩ (.int .i64 t266))) ?hg ?ho ?hn ?hr ?_;(case ho => rfl);(case hg => rfl);(case hn => rfl);(case hr => first | (go_simp;done) | (go_simp;rfl));intro w34 hw;have hg : w32.grownBy w34 (some go13) := (by rw [hw];exact HP33.2);have hp_ : Kd.R (Kd.int .i64) 3 w34 w.heap.size (fun _ => True) (.slice (some ⟨go13,0,none⟩) y270.length co13) y273 := (by rw [hw,Ny273.out];exact HP33.1);clear HP33;have n0 := aM_ (blk_grown (g := gb262) (o := .cells #[.slice (some ad263) l0_0.length c0_0] 24 (0,0)) (by (with_reducible repeat (first | refine bN_ ?_ _ | refine bD_ ?_ | refine bA_ ?_ _));exact BK262.out) hg (Kd.R_ne HO272.out BK262.out (by decide)));have n1 := aM_ (hp_);have n2 := aM_ ((by rw [hw];exact below_set (HB.out) GB13.out : Below w.heap.size w w34));clear BK262;clear HO272;clear HB;have BK262 := n0;have HO272 := n1;have HB := n2;clear n0 n1 n2;clear hg hw hp_;have p279 : 0 ≤ (t266 : Int) := of_decide_eq_true (by first | (with_reducible assumption) | assumption);have q279 : t266 < ((rd_L4 l0_0 a2).length : Int) := of_decide_eq_true (by first | (with_reducible assumption) | assumption);obtain ⟨ad279,A279_1,c279_1,e279,hx279_0,hx279_1,hl279_1,hi279_1⟩ := at_T43 HR263_0.out t266 p279 q279;cases e279;replace hx279_0 := cB_ HB.out hx279_0;replace hx279_1 := cB_ HB.out hx279_1;have HR279_1 := aM_ hi279_1;have HC279_1 := aM_ hl279_1;clear hi279_1 hl279_1;replace p279 := eq_true p279;replace q279 := eq_true q279))
         repeat (go_quiet (first | ((with_reducible refine gate_dst (N := 5) rfl ?_);refine bX_ 5 (cs := #[.slice A0_0 l0_0.length c0_0]) (t := 24) ?_;intro gb262 hg w28 hbox hb;have n0 := aM_ (sT_ HB.out hb);have n1 := aM_ (hbox);have n2 := aM_ (sZ_ hg HB.out);have n3 := aM_ (sZ_ hg HB.out);clear HB;have HB := n0;have BK262 := n1;have GW262 := n2;have GE262 := n3;clear n0 n1 n2 n3;clear hb hbox hg;have hcz29_0 : w28.cell? ⟨gb262,0,none⟩ = some (.slice A0_0 l0_0.length c0_0) := (blk_cell BK262.out 0).trans rfl;have hfz29_0 := blk_frozen BK262.out 0;have p263 : 0 ≤ (a2 : Int) := of_decide_eq_true (by first | (with_reducible assumption) | assumption);have q263 : a2 < (l0_0.length : Int) := of_decide_eq_true (by first | (with_reducible assumption) | assumption);obtain ⟨ad263,A263_0,c263_0,e263,hx263_0,hl263_0,hi263_0⟩ := at_L4 HR0_0.out a2 p263 q263;cases e263;replace hx263_0 := cB_ HB.out hx263_0;have HR263_0 := aM_ hi263_0;have HC263_0 := aM_ hl263_0;clear hi263_0 hl263_0;replace p263 := eq_true p263;replace q263 := eq_true q263;have p265 : 0 ≤ (a2 : Int) := of_decide_eq_true (by first | (with_reducible assumption) | assumption);have q265 : a2 < (l1.length : Int) := of_decide_eq_true (by first | (with_reducible assumption) | assumption);obtain ⟨ad265,e265,hx265_0⟩ := Kd.at_int HR1.out a2 p265 q265;cases e265;replace hx265_0 := cB_ HB.out hx265_0;replace p265 := eq_true p265;replace q265 := eq_true q265) | (go_at_call 95;(with_reducible refine (spec_l1Max.calls a3 0 t264 _ A8.out).mono ?_);rintro e w' ⟨rfl,⟨nd,rfl⟩⟩;(try first | exact ⟨rfl,_,World.drewN_drewN _ _ _⟩ | exact ⟨rfl,_,Eq.trans (World.drewN_drewN _ _ _) (congrArg (World.drewN _) (Nat.add_assoc _ _ _))⟩)) | (go_at_call 95;(with_reducible refine (spec_l1Max.calls (wrap64 ((wrap64 (((rd_L4 l0_0 a2).length : Int) - 1)) - t264)) (rd l1 a2) t266 _ A10.out).mono ?_);rintro e w' ⟨rfl,⟨nd,rfl⟩⟩;(try first | exact ⟨rfl,_,World.drewN_drewN _ _ _⟩ | exact ⟨rfl,_,Eq.trans (World.drewN_drewN _ _ _) (congrArg (World.drewN _) (Nat.add_assoc _ _ _))⟩)) | ((with_reducible refine gate_dst (N := 31) rfl ?_);refine Kd.R_lit (Kd.int .i64) _ 3 ?hg (N := 31) ?hd (xs := ([] : List Int)) (inner := []) (ok := fun _ => True) (okp := fun _ => True) ?hr ?hp (fun _ hk => hk) trivial (Below.refl _ _) (Nat.le_refl _) (by simp) ?_;(case hd => rfl);(case hg => rfl);(case hr => first | (go_simp;done) | (go_simp;rfl));(case hp => exact (Reps.none _ _));intro v268 w30 ho31 hb hg_ hnew_;clear hg_ hnew_;(first | rw [← Ny267.out] at ho31 | (simp only [Int.reduceToNat] at ho31;rw [← Ny267.out] at ho31));have n0 := aM_ (Kd.R_lower ho31 (below_size (gB_ HB.out)));have n1 := aM_ (nB_ BK262.out hb);have n2 := aM_ (sT_ HB.out hb);clear BK262;clear HB;have HO269 := n0;have BK262 := n1;have HB := n2;clear n0 n1 n2;clear hb ho31) | ((with_reducible refine gate_builtin (b := .append) (xs := #[.tmp 31,.tmp 32]) rfl ?_);at_builtin;refine Kd.R_append_rows (Kd.int .i64) (w0 := w) w.heap.size rfl (.tmp 31) (.tmp 32) 31 3 (.int .i64 0) 8 rfl Try.underlying31 info3 rfl (by decide) (by omega) v268 y267 l1 _ _ _ (fun _ => True) (fun _ => False) rfl rfl ?aO ?aR (fun _ _ h => h) (fun _ h => h.elim) ?aF ?aB ?aS ?aL ?_;(case aR => repeat (first | exact (Kd.C_below HR1.out HB.out) | (with_reducible refine Kd.C_alloc ?_ _) | (with_reducible refine Kd.C_drewN ?_ _) | (with_reducible refine Kd.C_drew ?_)));(case aB => exact (gB_ HB.out));(case aF => exact (fun _ _ => trivial));(case aO => exact (by (with_reducible repeat (first | apply rA_ | apply rN_ | apply rD_));exact HO269.out));(case aS => exact (below_size (gB_ HB.out)));(case aL => have := LMc11.out;omega);intro v271 w32 ho hb hg hat;rw [← Ny270.out] at ho;have n0 := aM_ (blk_grown (g := gb262) (o := .cells #[.slice (some ad263) l0_0.length c0_0] 24 (0,0)) (by (with_reducible repeat (first | refine bN_ ?_ _ | refine bD_ ?_ | refine bA_ ?_ _));exact BK262.out) hg (Kd.R_ne HO269.out BK262.out (by decide)));have n1 := aM_ (hb);have n2 := aM_ (ho);clear BK262;clear HB;clear HO269;have BK262 := n0;have HB := n1;have HO272 := n2;clear n0 n1 n2;clear ho hb hg hat;have p13 : 0 ≤ (a2 : Int) := of_decide_eq_true (by first | (with_reducible assumption) | assumption);have q13 : (a2 : Int) < ((y270.length : Int) : Int) := of_decide_eq_true (by first | (with_reducible assumption) | assumption);obtain ⟨go13,co13,eo13,gb13,gl13,cl13,HG13⟩ := Kd.R_form HO272.out (by omega);(first | cases eo13 | (injection eo13 with ea_ en_ ec_;(first | subst ea_ | (injection ea_ with ea_;subst ea_));subst ec_;clear en_));have GB13 := aM_ gb13;have GG13 := aM_ HG13;clear gb13 gl13 HG13;obtain ⟨hx13_0,hf13_0⟩ := Kd.R_celln 0 HO272.out (a2 : Int) p13 q13;replace p13 := eq_true p13;replace q13 := eq_true q13;obtain ⟨hy33_,hz33_⟩ := Kd.R_celln 0 HO272.out (a2 : Int) (of_decide_eq_true (by first | (with_reducible assumption) | assumption)) (of_decide_eq_true (by first | (with_reducible assumption) | assumption));have HP33 := Kd.R_putg HO272.out (a2 : Int) t266) | ((with_reducible refine gate_store (t := 3) (p := 37) rfl ?_);(try (rw [drewN_self w32];generalize hq_ : World.drewN w32 _ = w32;have n0 := aM_ (Kd.R_at hq_ HO272.out);have n1 := aM_ (blk_at hq_ BK262.out);have n2 := aM_ (below_at hq_ HB.out);clear hq_ HO272 BK262 HB;have HO272 := n0;have BK262 := n1;have HB := n2;clear n0 n1 n2;(try (obtain ⟨hy33_,hz33_⟩ := Kd.R_celln 0 HO272.out (a2 : Int) (of_decide_eq_true (by first | (with_reducible assumption) | assumption)) (of_decide_eq_true (by first | (with_reducible assumption) | assumption))));(try (have HP33 := Kd.R_putg HO272.out (a2 : Int) t266))));refine store_event (t := 3) (p := 37) (v := ?vo_w34) (w1 := (w32.setCell ⟨go13,(a2 : Int).toNat,none⟩ (.int .i64 t266))) ?hg ?ho ?hn ?hr ?_;(case ho => rfl);(case hg => rfl);(case hn => rfl);(case hr => first | (go_simp;done) | (go_simp;rfl));intro w34 hw;have hg : w32.grownBy w34 (some go13) := (by rw [hw];exact HP33.2);have hp_ : Kd.R (Kd.int .i64) 3 w34 w.heap.size (fun _ => True) (.slice (some ⟨go13,0,none⟩) y270.length co13) y273 := (by rw [hw,Ny273.out];exact HP33.1);clear HP33;have n0 := aM_ (blk_grown (g := gb262) (o := .cells #[.slice (some ad263) l0_0.length c0_0] 24 (0,0)) (by (with_reducible repeat (first | refine bN_ ?_ _ | refine bD_ ?_ | refine bA_ ?_ _));exact BK262.out) hg (Kd.R_ne HO272.out BK262.out (by decide)));have n1 := aM_ (hp_);have n2 := aM_ ((by rw [hw];exact below_set (HB.out) GB13.out : Below w.heap.size w w34));clear BK262;clear HO272;clear HB;have BK262 := n0;have HO272 := n1;have HB := n2;clear n0 n1 n2;clear hg hw hp_;have p279 : 0 ≤ (t266 : Int) := of_decide_eq_true (by first | (with_reducible assumption) | assumption);have q279 : t266 < ((rd_L4 l0_0 a2).length : Int) := of_decide_eq_true (by first | (with_reducible assumption) | assumption);obtain ⟨ad279,A279_1,c279_1,e279,hx279_0,hx279_1,hl279_1,hi279_1⟩ := at_T43 HR263_0.out t266 p279 q279;cases e279;replace hx279_0 := cB_ HB.out hx279_0;replace hx279_1 := cB_ HB.out hx279_1;have HR279_1 := aM_ hi279_1;have HC279_1 := aM_ hl279_1;clear hi279_1 hl279_1;replace p279 := eq_true p279;replace q279 := eq_true q279));try go_wp2_with (first | ((with_reducible refine gate_dst (N := 5) rfl ?_);refine bX_ 5 (cs := #[.slice A0_0 l0_0.length c0_0]) (t := 24) ?_;intro gb262 hg w28 hbox hb;have n0 := aM_ (sT_ HB.out hb);have n1 := aM_ (hbox);have n2 := aM_ (sZ_ hg HB.out);have n3 := aM_ (sZ_ hg HB.out);clear HB;have HB := n0;have BK262 := n1;have GW262 := n2;have GE262 := n3;clear n0 n1 n2 n3;clear hb hbox hg;have hcz29_0 : w28.cell? ⟨gb262,0,none⟩ = some (.slice A0_0 l0_0.length c0_0) := (blk_cell BK262.out 0).trans rfl;have hfz29_0 := blk_frozen BK262.out 0;have p263 : 0 ≤ (a2 : Int) := of_decide_eq_true (by first | (with_reducible assumption) | assumption);have q263 : a2 < (l0_0.length : Int) := of_decide_eq_true (by first | (with_reducible assumption) | assumption);obtain ⟨ad263,A263_0,c263_0,e263,hx263_0,hl263_0,hi263_0⟩ := at_L4 HR0_0.out a2 p263 q263;cases e263;replace hx263_0 := cB_ HB.out hx263_0;have HR263_0 := aM_ hi263_0;have HC263_0 := aM_ hl263_0;clear hi263_0 hl263_0;replace p263 := eq_true p263;replace q263 := eq_true q263) | (go_at_call 95;(with_reducible refine (spec_l1Max.calls a3 0 t264 _ A8.out).mono ?_);rintro e w' ⟨rfl,⟨nd,rfl⟩⟩;(try first | exact ⟨rfl,_,World.drewN_drewN _ _ _⟩ | exact ⟨rfl,_,Eq.trans (World.drewN_drewN _ _ _) (congrArg (World.drewN _) (Nat.add_assoc _ _ _))⟩);have p265 : 0 ≤ (a2 : Int) := of_decide_eq_true (by first | (with_reducible assumption) | assumption);have q265 : a2 < (l1.length : Int) := of_decide_eq_true (by first | (with_reducible assumption) | assumption);obtain ⟨ad265,e265,hx265_0⟩ := Kd.at_int HR1.out a2 p265 q265;cases e265;replace hx265_0 := cB_ HB.out hx265_0;replace p265 := eq_true p265;replace q265 := eq_true q265) | (go_at_call 95;(with_reducible refine (spec_l1Max.calls (wrap64 ((wrap64 (((rd_L4 l0_0 a2).length : Int) - 1)) - t264)) (rd l1 a2) t266 _ A10.out).mono ?_);rintro e w' ⟨rfl,⟨nd,rfl⟩⟩;(try first | exact ⟨rfl,_,World.drewN_drewN _ _ _⟩ | exact ⟨rfl,_,Eq.trans (World.drewN_drewN _ _ _) (congrArg (World.drewN _) (Nat.add_assoc _ _ _))⟩)) | ((with_reducible refine gate_dst (N := 31) rfl ?_);refine Kd.R_lit (Kd.int .i64) _ 3 ?hg (N := 31) ?hd (xs := ([] : List Int)) (inner := []) (ok := fun _ => True) (okp := fun _ => True) ?hr ?hp (fun _ hk => hk) trivial (Below.refl _ _) (Nat.le_refl _) (by simp) ?_;(case hd => rfl);(case hg => rfl);(case hr => first | (go_simp;done) | (go_simp;rfl));(case hp => exact (Reps.none _ _));intro v268 w30 ho31 hb hg_ hnew_;clear hg_ hnew_;(first | rw [← Ny267.out] at ho31 | (simp only [Int.reduceToNat] at ho31;rw [← Ny267.out] at ho31));have n0 := aM_ (Kd.R_lower ho31 (below_size (gB_ HB.out)));have n1 := aM_ (nB_ BK262.out hb);have n2 := aM_ (sT_ HB.out hb);clear BK262;clear HB;have HO269 := n0;have BK262 := n1;have HB := n2;clear n0 n1 n2;clear hb ho31) | ((with_reducible refine gate_builtin (b := .append) (xs := #[.tmp 31,.tmp 32]) rfl ?_);at_builtin;refine Kd.R_append_rows (Kd.int .i64) (w0 := w) w.heap.size rfl (.tmp 31) (.tmp 32) 31 3 (.int .i64 0) 8 rfl Try.underlying31 info3 rfl (by decide) (by omega) v268 y267 l1 _ _ _ (fun _ => True) (fun _ => False) rfl rfl ?aO ?aR (fun _ _ h => h) (fun _ h => h.elim) ?aF ?aB ?aS ?aL ?_;(case aR => repeat (first | exact (Kd.C_below HR1.out HB.out) | (with_reducible refine Kd.C_alloc ?_ _) | (with_reducible refine Kd.C_drewN ?_ _) | (with_reducible refine Kd.C_drew ?_)));(case aB => exact (gB_ HB.out));(case aF => exact (fun _ _ => trivial));(case aO => exact (by (with_reducible repeat (first | apply rA_ | apply rN_ | apply rD_));exact HO269.out));(case aS => exact (below_size (gB_ HB.out)));(case aL => have := LMc11.out;omega);intro v271 w32 ho hb hg hat;rw [← Ny270.out] at ho;have n0 := aM_ (blk_grown (g := gb262) (o := .cells #[.slice (some ad263) l0_0.length c0_0] 24 (0,0)) (by (with_reducible repeat (first | refine bN_ ?_ _ | refine bD_ ?_ | refine bA_ ?_ _));exact BK262.out) hg (Kd.R_ne HO269.out BK262.out (by decide)));have n1 := aM_ (hb);have n2 := aM_ (ho);clear BK262;clear HB;clear HO269;have BK262 := n0;have HB := n1;have HO272 := n2;clear n0 n1 n2;clear ho hb hg hat;have p13 : 0 ≤ (a2 : Int) := of_decide_eq_true (by first | (with_reducible assumption) | assumption);have q13 : (a2 : Int) < ((y270.length : Int) : Int) := of_decide_eq_true (by first | (with_reducible assumption) | assumption);obtain ⟨go13,co13,eo13,gb13,gl13,cl13,HG13⟩ := Kd.R_form HO272.out (by omega);(first | cases eo13 | (injection eo13 with ea_ en_ ec_;(first | subst ea_ | (injection ea_ with ea_;subst ea_));subst ec_;clear en_));have GB13 := aM_ gb13;have GG13 := aM_ HG13;clear gb13 gl13 HG13;obtain ⟨hx13_0,hf13_0⟩ := Kd.R_celln 0 HO272.out (a2 : Int) p13 q13;replace p13 := eq_true p13;replace q13 := eq_true q13;obtain ⟨hy33_,hz33_⟩ := Kd.R_celln 0 HO272.out (a2 : Int) (of_decide_eq_true (by first | (with_reducible assumption) | assumption)) (of_decide_eq_true (by first | (with_reducible assumption) | assumption));have HP33 := Kd.R_putg HO272.out (a2 : Int) t266) | ((with_reducible refine gate_store (t := 3) (p := 37) rfl ?_);(try (rw [drewN_self w32];generalize hq_ : World.drewN w32 _ = w32;have n0 := aM_ (Kd.R_at hq_ HO272.out);have n1 := aM_ (blk_at hq_ BK262.out);have n2 := aM_ (below_at hq_ HB.out);clear hq_ HO272 BK262 HB;have HO272 := n0;have BK262 := n1;have HB := n2;clear n0 n1 n2;(try (obtain ⟨hy33_,hz33_⟩ := Kd.R_celln 0 HO272.out (a2 : Int) (of_decide_eq_true (by first | (with_reducible assumption) | assumption)) (of_decide_eq_true (by first | (with_reducible assumption) | assumption))));(try (have HP33 := Kd.R_putg HO272.out (a2 : Int) t266))));refine store_event (t := 3) (p := 37) (v := ?vo_w34) (w1 := (w32.setCell ⟨go13,(a2 : Int).toNat,none⟩ (.int .i64 t266))) ?hg ?ho ?hn ?hr ?_;(case ho => rfl);(case hg => rfl);(case hn => rfl);(case hr => first | (go_simp;done) | (go_simp;rfl));intro w34 hw;have hg : w32.grownBy w34 (some go13) := (by rw [hw];exact HP33.2);have hp_ : Kd.R (Kd.int .i64) 3 w34 w.heap.size (fun _ => True) (.slice (some ⟨go13,0,none⟩) y270.length co13) y273 := (by rw [hw,Ny273.out];exact HP33.1);clear HP33;have n0 := aM_ (blk_grown (g := gb262) (o := .cells #[.slice (some ad263) l0_0.length c0_0] 24 (0,0)) (by (with_reducible repeat (first | refine bN_ ?_ _ | refine bD_ ?_ | refine bA_ ?_ _));exact BK262.out) hg (Kd.R_ne HO272.out BK262.out (by decide)));have n1 := aM_ (hp_);have n2 := aM_ ((by rw [hw];exact below_set (HB.out) GB13.out : Below w.heap.size w w34));clear BK262;clear HO272;clear HB;have BK262 := n0;have HO272 := n1;have HB := n2;clear n0 n1 n2;clear hg hw hp_;have p279 : 0 ≤ (t266 : Int) := of_decide_eq_true (by first | (with_reducible assumption) | assumption);have q279 : t266 < ((rd_L4 l0_0 a2).length : Int) := of_decide_eq_true (by first | (with_reducible assumption) | assumption);obtain ⟨ad279,A279_1,c279_1,e279,hx279_0,hx279_1,hl279_1,hi279_1⟩ := at_T43 HR263_0.out t266 p279 q279;cases e279;replace hx279_0 := cB_ HB.out hx279_0;replace hx279_1 := cB_ HB.out hx279_1;have HR279_1 := aM_ hi279_1;have HC279_1 := aM_ hl279_1;clear hi279_1 hl279_1;replace p279 := eq_true p279;replace q279 := eq_true q279)))
         go_ret2
         exact ⟨_,fR_,by (with_reducible repeat (first | apply rA_ | apply rN_ | apply rD_));exact HO272.out,gB_ HB.out⟩
        ·rw [if_neg c27] at H
         exact absurd H (by simp)
       ·rw [if_neg c26] at H
        exact absurd H (by simp)
     ·rw [if_neg c12] at H
      exact absurd H (by simp)
    ·rw [if_neg c11] at H
     exact absurd H (by simp)
   ·rw [if_neg c9] at H
    exact absurd H (by simp)
  ·rw [if_neg c7] at H
   exact absurd H (by simp)
 ·rw [if_neg c6] at H
  exact absurd H (by simp)
def spec_Load.f (k : Nat) (l0_0 : List (List (S43))) (l1 : List Int) (a2 : Int) (a3 : Int) (a4 : Bool) : Option (Int × List Int) := (spec_l6Right.f k l0_0 l1 a2).bind fun t281 => (if t281 = true then ((spec_l6Load.f k l0_0 l1 a2 a3 a4).bind fun bt282 => (some (bt282.1,bt282.2))) else ((some (([] : List Int) : List Int)).bind fun y286 => (if y286.length + l1.length < 17592186044416 then (some (0,(y286 ++ l1))) else (none))))
set_option maxHeartbeats 8000000 in
set_option maxRecDepth 100000 in
theorem spec_Load.calls (k : Nat) (A0_0 : Option Addr) (c0_0 : Nat) (l0_0 : List (List (S43))) (A1 : Option Addr) (c1 : Nat) (l1 : List Int) (a2 : Int) (a3 : Int) (a4 : Bool) (r1 : Int) (r2 : List Int) (w : World) (hr0_0 : Kd.C (Kd.slice 43 k43) w A0_0 l0_0.length l0_0) (hc0_0 : l0_0.length ≤ c0_0) (hr1 : Kd.C (Kd.int .i64) w A1 l1.length l1) (hc1 : l1.length ≤ c1) (h : spec_Load.f k l0_0 l1 a2 a3 a4 = some (r1,r2)) :
  Calls Try.prog 22 #[.agg #[.slice A0_0 l0_0.length c0_0],.slice A1 l1.length c1,.int .i64 a2,.int .i64 a3,.bool a4] w fun e w' => ∃ v1_ : Value,e = .returned (.tuple #[.int .i64 r1,v1_]) ∧ Kd.R (Kd.int .i64) 3 w' w.heap.size (fun _ => True) v1_ r2 ∧ Below w.heap.size w w' := by
 have hu24 := Try.underlying24
 have HR0_0 := aM_ hr0_0
 have HC0_0 := aM_ hc0_0
 clear hr0_0 hc0_0
 have HR1 := aM_ hr1
 have HC1 := aM_ hc1
 clear hr1 hc1
 have HB := aM_ (Below.refl w.heap.size w)
 have H : ((spec_l6Right.f k l0_0 l1 a2).bind fun t281 => (if t281 = true then ((spec_l6Load.f k l0_0 l1 a2 a3 a4).bind fun bt282 => (some (bt282.1,bt282.2))) else ((some (([] : List Int) : List Int)).bind fun y286 => (if y286.length + l1.length < 17592186044416 then (some (0,(y286 ++ l1))) else (none))))) = some (r1,r2) := h
 clear h
 replace H := Option.bind_eq_some_iff.mp H
 obtain ⟨t281,A60,H⟩ := H
 replace H : (if t281 = true then ((spec_l6Load.f k l0_0 l1 a2 a3 a4).bind fun bt282 => (some (bt282.1,bt282.2))) else ((some (([] : List Int) : List Int)).bind fun y286 => (if y286.length + l1.length < 17592186044416 then (some (0,(y286 ++ l1))) else (none)))) = some (r1,r2) := H
 have A6 := aM_ A60
 clear A60
 by_cases c7 : t281 = true
 ·subst c7
  have H1 : ((spec_l6Load.f k l0_0 l1 a2 a3 a4).bind fun bt282 => (some (bt282.1,bt282.2))) = some (r1,r2) := by rw [if_pos rfl] at H;exact H
  clear H
  have H := H1
  clear H1
  replace H := Option.bind_eq_some_iff.mp H
  obtain ⟨⟨t282,t283⟩,A80,H⟩ := H
  replace H : (some (t282,t283)) = some (r1,r2) := H
  have A8 := aM_ A80
  clear A80
  simp only [Option.some.injEq,Prod.mk.injEq] at H
  obtain ⟨rfl,rfl⟩ := H
  go_enter Try.func22,Try.ntmps22
  go_wp2_with (first | ((with_reducible refine gate_dst (N := 5) rfl ?_);refine bX_ 5 (cs := #[.slice A0_0 l0_0.length c0_0]) (t := 24) ?_;intro gb280 hg w9 hbox hb;have n0 := aM_ (sT_ HB.out hb);have n1 := aM_ (hbox);have n2 := aM_ (sZ_ hg HB.out);have n3 := aM_ (sZ_ hg HB.out);clear HB;have HB := n0;have BK280 := n1;have GW280 := n2;have GE280 := n3;clear n0 n1 n2 n3;clear hb hbox hg;have hcz10_0 : w9.cell? ⟨gb280,0,none⟩ = some (.slice A0_0 l0_0.length c0_0) := (blk_cell BK280.out 0).trans rfl;have hfz10_0 := blk_frozen BK280.out 0) | ((with_reducible refine gate_callee (f := 61) rfl ?_);refine gL_ (some 17) Try.func61 #[.agg #[.slice A0_0 l0_0.length c0_0],.slice A1 l1.length c1,.int .i64 a2] ?_;(with_reducible refine (spec_l6Right.calls k _ _ l0_0 _ _ l1 a2 true _ ?side1 ?side2 ?side3 ?side4 A6.out).mono ?_);(case side1 => exact cS_ (Kd.C_below HR0_0.out HB.out));(case side2 => exact HC0_0.out);(case side3 => exact cS_ (Kd.C_below HR1.out HB.out));(case side4 => exact HC1.out);rintro e w11 ⟨rfl,hb⟩;refine ⟨_,rfl,?_⟩;have n0 := aM_ (nB_ BK280.out hb);have n1 := aM_ (sT_ HB.out hb);clear BK280;clear HB;have BK280 := n0;have HB := n1;clear n0 n1;have hcz12_0 : w11.cell? ⟨gb280,0,none⟩ = some (.slice A0_0 l0_0.length c0_0) := (blk_cell BK280.out 0).trans rfl;have hfz12_0 := blk_frozen BK280.out 0) | ((with_reducible refine gate_callee (f := 62) rfl ?_);refine gL_ (some 28) Try.func62 #[.agg #[.slice A0_0 l0_0.length c0_0],.slice A1 l1.length c1,.int .i64 a2,.int .i64 a3,.bool a4] ?_;(with_reducible refine (spec_l6Load.calls k _ _ l0_0 _ _ l1 a2 a3 a4 t282 t283 _ ?side1 ?side2 ?side3 ?side4 A8.out).mono ?_);(case side1 => exact cS_ (Kd.C_below HR0_0.out HB.out));(case side2 => exact HC0_0.out);(case side3 => exact cS_ (Kd.C_below HR1.out HB.out));(case side4 => exact HC1.out);rintro e w13 ⟨v284,rfl,ho0,hb⟩;refine ⟨_,rfl,?_⟩;have n0 := aM_ (Kd.R_lower ho0 (below_size (gB_ HB.out)));have n1 := aM_ (nB_ BK280.out hb);have n2 := aM_ (sT_ HB.out hb);clear BK280;clear HB;have HO285 := n0;have BK280 := n1;have HB := n2;clear n0 n1 n2;(try clear ho0)))
  go_ret2
  exact ⟨_,fR_,by (with_reducible repeat (first | apply rA_ | apply rN_ | apply rD_));exact HO285.out,gB_ HB.out⟩
 ·replace c7 := Bool.eq_false_iff.mpr c7
  subst c7
  have H1 : ((some (([] : List Int) : List Int)).bind fun y286 => (if y286.length + l1.length < 17592186044416 then (some (0,(y286 ++ l1))) else (none))) = some (r1,r2) := by rw [if_neg (show ¬ (false = true) by decide)] at H;exact H
  clear H
  have H := H1
  clear H1
  obtain ⟨y286,hy286⟩ : ∃ y_ : List Int,y_ = (([] : List Int)) := ⟨_,rfl⟩
  replace H : (if y286.length + l1.length < 17592186044416 then (some (0,(y286 ++ l1))) else (none)) = some (r1,r2) := by first | (rw [hy286];with_reducible exact H) | (have H2_ := (Option.bind_some _ _).symm.trans H;rw [hy286];with_reducible exact H2_) | (have H2_ := (Option.bind_some _ _).symm.trans H;with_reducible exact H2_) | with_reducible exact H | (rw [hy286];exact H) | exact H
  have Ny286 := aM_ hy286
  clear hy286
  by_cases c14 : y286.length + l1.length < 17592186044416
  ·rw [if_pos c14] at H
   have LMc14 := aM_ c14
   clear c14
   obtain ⟨y289,hy289⟩ : ∃ y_ : List Int,y_ = (y286 ++ l1) := ⟨_,rfl⟩
   replace H : (some (0,y289)) = some (r1,r2) := by first | (rw [hy289];with_reducible exact H) | (have H2_ := (Option.bind_some _ _).symm.trans H;rw [hy289];with_reducible exact H2_) | (have H2_ := (Option.bind_some _ _).symm.trans H;with_reducible exact H2_) | with_reducible exact H | (rw [hy289];exact H) | exact H
   have Ny289 := aM_ hy289
   clear hy289
   simp only [Option.some.injEq,Prod.mk.injEq] at H
   obtain ⟨rfl,rfl⟩ := H
   go_enter Try.func22,Try.ntmps22
   go_wp2_with (first | ((with_reducible refine gate_dst (N := 5) rfl ?_);refine bX_ 5 (cs := #[.slice A0_0 l0_0.length c0_0]) (t := 24) ?_;intro gb280 hg w15 hbox hb;have n0 := aM_ (sT_ HB.out hb);have n1 := aM_ (hbox);have n2 := aM_ (sZ_ hg HB.out);have n3 := aM_ (sZ_ hg HB.out);clear HB;have HB := n0;have BK280 := n1;have GW280 := n2;have GE280 := n3;clear n0 n1 n2 n3;clear hb hbox hg;have hcz16_0 : w15.cell? ⟨gb280,0,none⟩ = some (.slice A0_0 l0_0.length c0_0) := (blk_cell BK280.out 0).trans rfl;have hfz16_0 := blk_frozen BK280.out 0) | ((with_reducible refine gate_callee (f := 61) rfl ?_);refine gL_ (some 17) Try.func61 #[.agg #[.slice A0_0 l0_0.length c0_0],.slice A1 l1.length c1,.int .i64 a2] ?_;(with_reducible refine (spec_l6Right.calls k _ _ l0_0 _ _ l1 a2 false _ ?side1 ?side2 ?side3 ?side4 A6.out).mono ?_);(case side1 => exact cS_ (Kd.C_below HR0_0.out HB.out));(case side2 => exact HC0_0.out);(case side3 => exact cS_ (Kd.C_below HR1.out HB.out));(case side4 => exact HC1.out);rintro e w17 ⟨rfl,hb⟩;refine ⟨_,rfl,?_⟩;have n0 := aM_ (nB_ BK280.out hb);have n1 := aM_ (sT_ HB.out hb);clear BK280;clear HB;have BK280 := n0;have HB := n1;clear n0 n1) | ((with_reducible refine gate_dst (N := 19) rfl ?_);refine Kd.R_lit (Kd.int .i64) _ 3 ?hg (N := 19) ?hd (xs := ([] : List Int)) (inner := []) (ok := fun _ => True) (okp := fun _ => True) ?hr ?hp (fun _ hk => hk) trivial (Below.refl _ _) (Nat.le_refl _) (by simp) ?_;(case hd => rfl);(case hg => rfl);(case hr => first | (go_simp;done) | (go_simp;rfl));(case hp => exact (Reps.none _ _));intro v287 w18 ho19 hb hg_ hnew_;clear hg_ hnew_;(first | rw [← Ny286.out] at ho19 | (simp only [Int.reduceToNat] at ho19;rw [← Ny286.out] at ho19));have n0 := aM_ (Kd.R_lower ho19 (below_size (gB_ HB.out)));have n1 := aM_ (nB_ BK280.out hb);have n2 := aM_ (sT_ HB.out hb);clear BK280;clear HB;have HO288 := n0;have BK280 := n1;have HB := n2;clear n0 n1 n2;clear hb ho19) | ((with_reducible refine gate_builtin (b := .append) (xs := #[.tmp 19,.tmp 20]) rfl ?_);at_builtin;refine Kd.R_append_rows (Kd.int .i64) (w0 := w) w.heap.size rfl (.tmp 19) (.tmp 20) 31 3 (.int .i64 0) 8 rfl Try.underlying31 info3 rfl (by decide) (by omega) v287 y286 l1 _ _ _ (fun _ => True) (fun _ => False) rfl rfl ?aO ?aR (fun _ _ h => h) (fun _ h => h.elim) ?aF ?aB ?aS ?aL ?_;(case aR => repeat (first | exact (Kd.C_below HR1.out HB.out) | (with_reducible refine Kd.C_alloc ?_ _) | (with_reducible refine Kd.C_drewN ?_ _) | (with_reducible refine Kd.C_drew ?_)));(case aB => exact (gB_ HB.out));(case aF => exact (fun _ _ => trivial));(case aO => exact (by (with_reducible repeat (first | apply rA_ | apply rN_ | apply rD_));exact HO288.out));(case aS => exact (below_size (gB_ HB.out)));(case aL => have := LMc14.out;omega);intro v290 w20 ho hb hg hat;rw [← Ny289.out] at ho;have n0 := aM_ (blk_grown (g := gb280) (o := .cells #[.slice A0_0 l0_0.length c0_0] 24 (0,0)) (by (with_reducible repeat (first | refine bN_ ?_ _ | refine bD_ ?_ | refine bA_ ?_ _));exact BK280.out) hg (Kd.R_ne HO288.out BK280.out (by decide)));have n1 := aM_ (hb);have n2 := aM_ (ho);clear BK280;clear HB;clear HO288;have BK280 := n0;have HB := n1;have HO291 := n2;clear n0 n1 n2;clear ho hb hg hat))
   go_ret2
   exact ⟨_,fR_,by (with_reducible repeat (first | apply rA_ | apply rN_ | apply rD_));exact HO291.out,gB_ HB.out⟩
  ·rw [if_neg c14] at H
   exact absurd H (by simp)
mutual
def spec_l6Copy.l0 : Nat → Int → List (List (S43)) → List (List (S43)) → Option ((List (List (S43))))
  | 0,_,_,_ => none
  | k + 1,x4,x293000,x295000 => if x4 < (x293000.length : Int) then (spec_l6Copy.l1 k x4 (([] : List (S43))) 0 x293000 x295000) else (some x295000)
def spec_l6Copy.l1 : Nat → Int → List (S43) → Int → List (List (S43)) → List (List (S43)) → Option ((List (List (S43))))
  | 0,_,_,_,_,_ => none
  | k + 1,x4,x5,x6,x293000,x295000 => if 0 ≤ x4 then (if x4 < (x293000.length : Int) then (if x6 < ((rd_L4 x293000 x4).length : Int) then (if 0 ≤ x6 then ((some (([] : List Int) : List Int)).bind fun y301 => (if y301.length + ((rd_T43 (rd_L4 x293000 x4) x6).f1).length < 17592186044416 then (if x5.length < 4398046511104 then (spec_l6Copy.l1 k x4 (x5 ++ [(⟨(rd_T43 (rd_L4 x293000 x4) x6).f0,(y301 ++ ((rd_T43 (rd_L4 x293000 x4) x6).f1))⟩ : S43)]) (wrap64 (x6 + 1)) x293000 x295000) else (none)) else (none))) else (none)) else (if x295000.length < 5864062014805 then (spec_l6Copy.l0 k (wrap64 (x4 + 1)) x293000 (x295000 ++ [x5])) else (none))) else (none)) else (none)
end
def spec_l6Copy.f (k : Nat) (l0_0 : List (List (S43))) : Option ((List (List (S43)))) := spec_l6Copy.l0 k 0 l0_0 ([] : List (List (S43)))
def spec_l6Copy.T9 : Bool × List (List Nat × List Nat) := (true,[([],[]),([],[]),([1],[1]),([],[]),([2,3],[2,3]),([4],[4]),([],[]),([5,6],[5,6]),([7],[7]),([8],[8]),([],[]),([],[]),([11],[11]),([],[]),([12,13],[12,13]),([14],[14]),([],[]),([15,16],[15,16]),([17],[17]),([18],[18]),([10,19],[10,19]),([9,20],[9,20]),([21],[21]),([0,22,20],[0,22]),([23,23,0,1,2,3,4,5,6,7,8,9,10,11,12,13,14,15,16,17,18,19,20,21,22,23],[0,23])])
def spec_l6Copy.B9 : List Nat := [0,0,2,0,14,30,0,126,254,510,0,0,2048,0,14336,30720,0,129024,260096,522240,1047552,2097150,4194302,8388607,16777215]
theorem spec_l6Copy.tab9 : rtab .any (opsOf Try.f85 9) = spec_l6Copy.T9 := by kernel_rfl
theorem spec_l6Copy.bits9 : waitsOk spec_l6Copy.T9.2 spec_l6Copy.B9 = true := by kernel_rfl
set_option maxHeartbeats 8000000 in
set_option maxRecDepth 100000 in
theorem spec_l6Copy.calls (k : Nat) (A0_0 : Option Addr) (c0_0 : Nat) (l0_0 : List (List (S43))) (r : List (List (S43))) (w00 : World) (hr0_0 : Kd.C (Kd.slice 43 k43) w00 A0_0 l0_0.length l0_0) (hc0_0 : l0_0.length ≤ c0_0) (h : spec_l6Copy.f k l0_0 = some r) :
  Calls Try.prog 85 #[.agg #[.slice A0_0 l0_0.length c0_0]] w00 fun e w' => ∃ v0_ : Value,e = .returned (.agg #[v0_]) ∧ Kd.S (sslice 43 k43) 44 w' w00.heap.size (fun _ => True) v0_ r ∧ Below w00.heap.size w00 w' := by
 have hu24 := Try.underlying24
 have hu43 := Try.underlying43
 have HR0_0 := aM_ hr0_0
 have HC0_0 := aM_ hc0_0
 clear hr0_0 hc0_0
 have HB := aM_ (Below.refl w00.heap.size w00)
 have H : (spec_l6Copy.l0 k 0 l0_0 ([] : List (List (S43)))) = some r := h
 clear h
 have H' := aM_ H
 clear H
 go_enter Try.func85,Try.ntmps85
 go_wp2_with (first | ((with_reducible refine gate_dst (N := 1) rfl ?_);refine bX_ 1 (cs := #[.slice A0_0 l0_0.length c0_0]) (t := 24) ?_;intro gb292 hg w2 hbox hb;have n0 := aM_ (sT_ HB.out hb);have n1 := aM_ (hbox);have n2 := aM_ ((by rw [hg];exact (below_size (gB_ HB.out)) : w00.heap.size ≤ gb292));have n3 := aM_ ((by rw [hg];exact (below_size (gB_ HB.out)) : w00.heap.size ≤ gb292));clear HB;have HB := n0;have BK292 := n1;have GW292 := n2;have GE292 := n3;clear n0 n1 n2 n3;clear hb hbox hg) | ((with_reducible refine gate_dst (N := 2) rfl ?_);refine bX_ 2 (cs := #[.slice none 0 0]) (t := 24) ?_;intro gb293 hg w3 hbox hb;have n0 := aM_ (nB_ BK292.out hb);have n1 := aM_ (sT_ HB.out hb);have n2 := aM_ (hbox);have n3 := aM_ ((by rw [hg];exact (below_size (gB_ HB.out)) : w00.heap.size ≤ gb293));have n4 := aM_ ((by rw [hg];exact (below_size (gB_ HB.out)) : w00.heap.size ≤ gb293));have n5 := aM_ (nL_ hg BK292.out);have n6 := aM_ (nG_ hg BK292.out);clear BK292;clear HB;have BK292 := n0;have HB := n1;have BK293 := n2;have GW293 := n3;have GE293 := n4;have NB292_293 := n5;have NB293_292 := n6;clear n0 n1 n2 n3 n4 n5 n6;clear hb hbox hg) | ((with_reducible refine gate_dst (N := 3) rfl ?_);refine bX_ 3 (cs := #[.slice none 0 0]) (t := 24) ?_;intro gb294 hg w4 hbox hb;have n0 := aM_ (nB_ BK292.out hb);have n1 := aM_ (nB_ BK293.out hb);have n2 := aM_ (sT_ HB.out hb);have n3 := aM_ (hbox);have n4 := aM_ ((by rw [hg];exact (below_size (gB_ HB.out)) : w00.heap.size ≤ gb294));have n5 := aM_ ((by rw [hg];exact (below_size (gB_ HB.out)) : w00.heap.size ≤ gb294));have n6 := aM_ (nL_ hg BK292.out);have n7 := aM_ (nG_ hg BK292.out);have n8 := aM_ (nL_ hg BK293.out);have n9 := aM_ (nG_ hg BK293.out);clear BK292;clear BK293;clear HB;have BK292 := n0;have BK293 := n1;have HB := n2;have BK294 := n3;have GW294 := n4;have GE294 := n5;have NB292_294 := n6;have NB294_292 := n7;have NB293_294 := n8;have NB294_293 := n9;clear n0 n1 n2 n3 n4 n5 n6 n7 n8 n9;clear hb hbox hg;have hnb5 := NB294_292.out;have hnc5 := NB292_294.out;have hnb6 := NB294_293.out;have hnc6 := NB293_294.out;have hcz7_0 : w4.cell? ⟨gb294,0,none⟩ = some (.slice none 0 0) := (blk_cell BK294.out 0).trans rfl;have hfz7_0 := blk_frozen BK294.out 0))
 go_loopg [4] k (fun kq v4 w' => ∃ (x4_1 : Int) (x2950_1 : List (List (S43))) (u2950 : Value),v4 = .int .i64 x4_1 ∧ Aside0 (spec_l6Copy.l0 kq x4_1 l0_0 x2950_1 = some r) ∧ Aside0 (kq ≤ k) ∧ Aside0 (Kd.S (sslice 43 k43) 44 w' w00.heap.size (fun _ => True) u2950 x2950_1) ∧ Aside0 (w'.heap[gb292]? = some (.cells #[(.slice A0_0 l0_0.length c0_0)] 24 (0,0))) ∧ Aside0 (w'.heap[gb293]? = some (.cells #[(.slice none 0 0)] 24 (0,0))) ∧ Aside0 (w'.heap[gb294]? = some (.cells #[u2950] 24 (0,0))) ∧ Aside0 (Below w00.heap.size w00 w'))
 case atStart => exact ⟨(0),(([] : List (List (S43)))),(.slice none 0 0),(by first | rfl | (simp;done) | (simp [*];done)),H',⟨Nat.le_refl _⟩,⟨by first | exact Kd.R_nil _ _ _ _ _ | exact Kd.N_nil _ _ _ _ _ | exact Kd.V_nil _ _ _ _ _ | exact Kd.Q_nil _ _ _ _ _ | exact Kd.S_nil _ _ _ _ _⟩,⟨by (with_reducible repeat (first | refine bN_ ?_ _ | refine bD_ ?_ | refine bA_ ?_ _));refine blk_far ?_ NB292_294.out _;(with_reducible repeat (first | refine bN_ ?_ _ | refine bD_ ?_ | refine bA_ ?_ _));exact BK292.out⟩,⟨by (with_reducible repeat (first | refine bN_ ?_ _ | refine bD_ ?_ | refine bA_ ?_ _));refine blk_far ?_ NB293_294.out _;(with_reducible repeat (first | refine bN_ ?_ _ | refine bD_ ?_ | refine bA_ ?_ _));exact BK293.out⟩,⟨by (with_reducible repeat (first | refine bN_ ?_ _ | refine bD_ ?_ | refine bA_ ?_ _));refine blk_put (cs := #[.slice none 0 0]) ?_ 0 _ rfl;(with_reducible repeat (first | refine bN_ ?_ _ | refine bD_ ?_ | refine bA_ ?_ _));exact BK294.out⟩,⟨gW_ HB.out⟩⟩
 case round =>
  clear H'
  try clear p2
  try clear c5
  try clear c6
  try clear hcz7_0 hfz7_0
  obtain ⟨x4_1,x2950_1,u2950,rfl,HA,HK1,HO_295000,BK292,BK293,BK294,HB⟩ := hrel
  cases gk with
  | zero => exact absurd HA.out (by simp [spec_l6Copy.l0])
  | succ k1 =>
   have H := HA.out
   clear HA
   simp only [spec_l6Copy.l0] at H
   by_cases c8 : x4_1 < (l0_0.length : Int)
   ·rw [if_pos c8] at H
    have c8b0 : decide (x4_1 < (l0_0.length : Int)) = true := decide_eq_true c8
    clear c8
    obtain ⟨w,hw⟩ : ∃ x,x = wr := ⟨wr,rfl⟩
    have HBo : Aside0 (Below w00.heap.size w00 w) := ⟨by rw [hw];exact HB.out⟩
    have HSo : Aside0 (Kd.S (sslice 43 k43) 44 w w00.heap.size (fun _ => True) u2950 x2950_1) := ⟨by rw [hw];exact HO_295000.out⟩
    have HF : Aside0 (∀ k,w.heap.size ≤ k → True ∧ some k ≠ (u2950 : Value).ownBlock) := ⟨fun k hk => ⟨trivial,fun e => Nat.not_le.2 (Kd.S_lt HSo.out k e.symm) hk⟩⟩
    replace HB : Aside0 (Below w.heap.size w wr) := ⟨by rw [hw];exact Below.refl _ _⟩
    replace HR0_0 := aM_ (Kd.C_below HR0_0.out HBo.out)
    replace HO_295000 := aM_ (S_Rs HO_295000.out)
    clear hw
    obtain ⟨y295,hy295⟩ : ∃ y_ : List (S43),y_ = (([] : List (S43))) := ⟨_,rfl⟩
    replace H : (spec_l6Copy.l1 k1 x4_1 y295 0 l0_0 x2950_1) = some r := by first | (rw [hy295];with_reducible exact H) | (have H2_ := (Option.bind_some _ _).symm.trans H;rw [hy295];with_reducible exact H2_) | (have H2_ := (Option.bind_some _ _).symm.trans H;with_reducible exact H2_) | with_reducible exact H | (rw [hy295];exact H) | exact H
    have Ny295 := aM_ hy295
    clear hy295
    have H' := aM_ H
    clear H
    have hnb9 := NB292_293.out
    have hnc9 := NB293_292.out
    have hnb10 := NB292_294.out
    have hnc10 := NB294_292.out
    have hcz11_0 : wr.cell? ⟨gb292,0,none⟩ = some (.slice A0_0 l0_0.length c0_0) := (blk_cell BK292.out 0).trans rfl
    have hfz11_0 := blk_frozen BK292.out 0
    go_wp2_with (first | ((with_reducible refine gate_dst (N := 15) rfl ?_);refine Kd.S_lit k43 _ 43 ?hg (N := 15) ?hd (xs := ([] : List (S43))) (inner := []) (ok := fun _ => True) (okp := fun _ => True) ?hr ?hp (fun _ hk => hk) trivial (Below.refl _ _) (Nat.le_refl _) (by simp) ?_;(case hd => rfl);(case hg => rfl);(case hr => first | (go_simp;done) | (go_simp;rfl));(case hp => exact (Reps.none _ _));intro v296 w12 ho13 hb hg_ hnew_;clear hg_ hnew_;(first | rw [← Ny295.out] at ho13 | (simp only [Int.reduceToNat] at ho13;rw [← Ny295.out] at ho13));have n0 := aM_ (Kd.R_elder' (by (with_reducible repeat (first | apply rA_ | apply rN_ | apply rD_));exact HO_295000.out) (Kd.S_base ho13) hb);have n1 := aM_ (Kd.S_lower ho13 (below_size (gB_ HB.out)));have n2 := aM_ (nB_ BK292.out hb);have n3 := aM_ (nB_ BK293.out hb);have n4 := aM_ (nB_ BK294.out hb);have n5 := aM_ (sT_ HB.out hb);clear HO_295000;clear BK292;clear BK293;clear BK294;clear HB;have HO_295000 := n0;have HO297 := n1;have BK292 := n2;have BK293 := n3;have BK294 := n4;have HB := n5;clear n0 n1 n2 n3 n4 n5;clear hb ho13))
    go_loopg [5,6] k1 (fun kq v5 v6 w' => ∃ (x5_2 : List (S43)) (x6_2 : Int),v6 = .int .i64 x6_2 ∧ Aside0 (spec_l6Copy.l1 kq x4_1 x5_2 x6_2 l0_0 x2950_1 = some r) ∧ Aside0 (kq ≤ k1) ∧ Aside0 (Kd.S k43 43 w' w.heap.size (fun _ => True) v5 x5_2) ∧ Aside0 (Kd.R (Kd.slice 43 k43) 44 w' w00.heap.size (fun k_ => some k_ ≠ (v5 : Value).ownBlock) u2950 x2950_1) ∧ Aside0 (w'.heap[gb292]? = some (.cells #[(.slice A0_0 l0_0.length c0_0)] 24 (0,0))) ∧ Aside0 (w'.heap[gb293]? = some (.cells #[(.slice none 0 0)] 24 (0,0))) ∧ Aside0 (w'.heap[gb294]? = some (.cells #[u2950] 24 (0,0))) ∧ Aside0 (Below w.heap.size w w'))
    case atStart => exact ⟨(y295),(0),(by first | rfl | (simp;done) | (simp [*];done)),H',⟨Nat.le_refl _⟩,⟨by (with_reducible repeat (first | apply Kd.S_alloc | apply Kd.S_drewN | apply Kd.S_drew));exact HO297.out⟩,⟨by (with_reducible repeat (first | apply rA_ | apply rN_ | apply rD_));exact Kd.R_mono HO_295000.out (fun _ hk => hk.2)⟩,⟨rW_ BK292.out⟩,⟨rW_ BK293.out⟩,⟨rW_ BK294.out⟩,⟨gW_ HB.out⟩⟩
    case round =>
     clear H'
     try clear c1
     try clear p2
     try clear c5
     try clear c6
     try clear c8
     try clear c8b0
     try clear c9
     try clear c10
     try clear hcz11_0 hfz11_0
     try clear hcz7_0 hfz7_0
     try clear p2
     obtain ⟨x5_2,x6_2,rfl,HA,HK2,HO_5,HO_295000,BK292,BK293,BK294,HB⟩ := hrel
     cases gk with
     | zero => exact absurd HA.out (by simp [spec_l6Copy.l1])
     | succ k2 =>
      have H := HA.out
      clear HA
      simp only [spec_l6Copy.l1] at H
      by_cases c14 : 0 ≤ x4_1
      ·rw [if_pos c14] at H
       have c14b0 : decide (0 ≤ x4_1) = true := decide_eq_true c14
       clear c14
       by_cases c15 : x4_1 < (l0_0.length : Int)
       ·rw [if_pos c15] at H
        have c15b0 : decide (x4_1 < (l0_0.length : Int)) = true := decide_eq_true c15
        clear c15
        by_cases c16 : x6_2 < ((rd_L4 l0_0 x4_1).length : Int)
        ·rw [if_pos c16] at H
         have c16b0 : decide (x6_2 < ((rd_L4 l0_0 x4_1).length : Int)) = true := decide_eq_true c16
         clear c16
         by_cases c17 : 0 ≤ x6_2
         ·rw [if_pos c17] at H
          have c17b0 : decide (0 ≤ x6_2) = true := decide_eq_true c17
          clear c17
          obtain ⟨y301,hy301⟩ : ∃ y_ : List Int,y_ = (([] : List Int)) := ⟨_,rfl⟩
          replace H : (if y301.length + ((rd_T43 (rd_L4 l0_0 x4_1) x6_2).f1).length < 17592186044416 then (if x5_2.length < 4398046511104 then (spec_l6Copy.l1 k2 x4_1 (x5_2 ++ [(⟨(rd_T43 (rd_L4 l0_0 x4_1) x6_2).f0,(y301 ++ ((rd_T43 (rd_L4 l0_0 x4_1) x6_2).f1))⟩ : S43)]) (wrap64 (x6_2 + 1)) l0_0 x2950_1) else (none)) else (none)) = some r := by first | (rw [hy301];with_reducible exact H) | (have H2_ := (Option.bind_some _ _).symm.trans H;rw [hy301];with_reducible exact H2_) | (have H2_ := (Option.bind_some _ _).symm.trans H;with_reducible exact H2_) | with_reducible exact H | (rw [hy301];exact H) | exact H
          have Ny301 := aM_ hy301
          clear hy301
          by_cases c18 : y301.length + ((rd_T43 (rd_L4 l0_0 x4_1) x6_2).f1).length < 17592186044416
          ·rw [if_pos c18] at H
           have LMc18 := aM_ c18
           clear c18
           obtain ⟨y306,hy306⟩ : ∃ y_ : List Int,y_ = (y301 ++ ((rd_T43 (rd_L4 l0_0 x4_1) x6_2).f1)) := ⟨_,rfl⟩
           replace H : (if x5_2.length < 4398046511104 then (spec_l6Copy.l1 k2 x4_1 (x5_2 ++ [(⟨(rd_T43 (rd_L4 l0_0 x4_1) x6_2).f0,y306⟩ : S43)]) (wrap64 (x6_2 + 1)) l0_0 x2950_1) else (none)) = some r := by first | (rw [hy306];with_reducible exact H) | (have H2_ := (Option.bind_some _ _).symm.trans H;rw [hy306];with_reducible exact H2_) | (have H2_ := (Option.bind_some _ _).symm.trans H;with_reducible exact H2_) | with_reducible exact H | (rw [hy306];exact H) | exact H
           have Ny306 := aM_ hy306
           clear hy306
           by_cases c19 : x5_2.length < 4398046511104
           ·rw [if_pos c19] at H
            have LMc19 := aM_ c19
            clear c19
            obtain ⟨y309,hy309⟩ : ∃ y_ : List (S43),y_ = (x5_2 ++ [(⟨(rd_T43 (rd_L4 l0_0 x4_1) x6_2).f0,y306⟩ : S43)]) := ⟨_,rfl⟩
            replace H : (spec_l6Copy.l1 k2 x4_1 y309 (wrap64 (x6_2 + 1)) l0_0 x2950_1) = some r := by first | (rw [hy309];with_reducible exact H) | (have H2_ := (Option.bind_some _ _).symm.trans H;rw [hy309];with_reducible exact H2_) | (have H2_ := (Option.bind_some _ _).symm.trans H;with_reducible exact H2_) | with_reducible exact H | (rw [hy309];exact H) | exact H
            have Ny309 := aM_ hy309
            clear hy309
            have H' := aM_ H
            clear H
            have hnb20 := NB292_293.out
            have hnc20 := NB293_292.out
            have hnb21 := NB292_294.out
            have hnc21 := NB294_292.out
            have hcz22_0 : wr.cell? ⟨gb292,0,none⟩ = some (.slice A0_0 l0_0.length c0_0) := (blk_cell BK292.out 0).trans rfl
            have hfz22_0 := blk_frozen BK292.out 0
            have p298 : 0 ≤ (x4_1 : Int) := of_decide_eq_true (by first | (with_reducible assumption) | assumption)
            have q298 : x4_1 < (l0_0.length : Int) := of_decide_eq_true (by first | (with_reducible assumption) | assumption)
            obtain ⟨ad298,A298_0,c298_0,e298,hx298_0,hl298_0,hi298_0⟩ := at_L4 HR0_0.out x4_1 p298 q298
            cases e298
            replace hx298_0 := cB_ HB.out hx298_0
            have HR298_0 := aM_ hi298_0
            have HC298_0 := aM_ hl298_0
            clear hi298_0 hl298_0
            replace p298 := eq_true p298
            replace q298 := eq_true q298
            try go_wp2
            have n0 := aM_ (Kd.S_drew HO_5.out)
            have n1 := aM_ (Kd.R_drew HO_295000.out)
            have n2 := aM_ (blk_drew BK292.out)
            have n3 := aM_ (blk_drew BK293.out)
            have n4 := aM_ (blk_drew BK294.out)
            have n5 := aM_ (below_drew1 HB.out)
            clear HO_5
            clear HO_295000
            clear BK292
            clear BK293
            clear BK294
            clear HB
            have HO_5 := n0
            have HO_295000 := n1
            have BK292 := n2
            have BK293 := n3
            have BK294 := n4
            have HB := n5
            clear n0 n1 n2 n3 n4 n5
            have p299 : 0 ≤ (x4_1 : Int) := of_decide_eq_true (by first | (with_reducible assumption) | assumption)
            have q299 : x4_1 < (l0_0.length : Int) := of_decide_eq_true (by first | (with_reducible assumption) | assumption)
            obtain ⟨ad299,A299_0,c299_0,e299,hx299_0,hl299_0,hi299_0⟩ := at_L4 HR0_0.out x4_1 p299 q299
            have hw299_0 := hx299_0
            obtain rfl : ad298 = ad299 := (by injection e299)
            replace hx299_0 := cB_ HB.out hx299_0
            have HR299_0 := aM_ hi299_0
            have HC299_0 := aM_ hl299_0
            clear hi299_0 hl299_0
            replace p299 := eq_true p299
            replace q299 := eq_true q299
            have p300 : 0 ≤ (x6_2 : Int) := of_decide_eq_true (by first | (with_reducible assumption) | assumption)
            have q300 : x6_2 < ((rd_L4 l0_0 x4_1).length : Int) := of_decide_eq_true (by first | (with_reducible assumption) | assumption)
            obtain ⟨ad300,A300_1,c300_1,e300,hx300_0,hx300_1,hl300_1,hi300_1⟩ := at_T43 HR299_0.out x6_2 p300 q300
            have hw300_1 := hx300_1
            have hw300_0 := hx300_0
            cases e300
            replace hx300_0 := cB_ HB.out hx300_0
            replace hx300_1 := cB_ HB.out hx300_1
            have HR300_1 := aM_ hi300_1
            have HC300_1 := aM_ hl300_1
            clear hi300_1 hl300_1
            replace p300 := eq_true p300
            replace q300 := eq_true q300
            have p304 : 0 ≤ (x4_1 : Int) := of_decide_eq_true (by first | (with_reducible assumption) | assumption)
            have q304 : x4_1 < (l0_0.length : Int) := of_decide_eq_true (by first | (with_reducible assumption) | assumption)
            obtain ⟨ad304,A304_0,c304_0,e304,hx304_0,hl304_0,hi304_0⟩ := at_L4 HR0_0.out x4_1 p304 q304
            have hw304_0 := hx304_0
            obtain rfl : ad298 = ad304 := (by injection e304)
            replace hx304_0 := cB_ HB.out hx304_0
            have HR304_0 := aM_ hi304_0
            have HC304_0 := aM_ hl304_0
            clear hi304_0 hl304_0
            replace p304 := eq_true p304
            replace q304 := eq_true q304
            have ea_ := Option.some.inj (hx299_0.symm.trans hx304_0)
            injection ea_ with ea_ en_ ec_
            subst ea_
            subst ec_
            clear en_
            have p305 : 0 ≤ (x6_2 : Int) := of_decide_eq_true (by first | (with_reducible assumption) | assumption)
            have q305 : x6_2 < ((rd_L4 l0_0 x4_1).length : Int) := of_decide_eq_true (by first | (with_reducible assumption) | assumption)
            obtain ⟨ad305,A305_1,c305_1,e305,hx305_0,hx305_1,hl305_1,hi305_1⟩ := at_T43 HR304_0.out x6_2 p305 q305
            have hw305_1 := hx305_1
            have hw305_0 := hx305_0
            cases e305
            replace hx305_0 := cB_ HB.out hx305_0
            replace hx305_1 := cB_ HB.out hx305_1
            have HR305_1 := aM_ hi305_1
            have HC305_1 := aM_ hl305_1
            clear hi305_1 hl305_1
            have ea_ := Option.some.inj (hx300_1.symm.trans hx305_1)
            injection ea_ with ea_ en_ ec_
            subst ea_
            subst ec_
            clear en_
            replace p305 := eq_true p305
            replace q305 := eq_true q305
            refine start_ (n := 25) (S := fun w' => w'.cell? ⟨gb292,0,none⟩ = some (.slice (some ad298) l0_0.length c0_0) ∧ w'.cell? (ad298.add (x4_1).toNat) = some (.slice (some ad300) (rd_L4 l0_0 x4_1).length c299_0) ∧ w'.cell? (ad300.add ((x6_2).toNat * 2)) = some (.int .i64 ((rd_T43 (rd_L4 l0_0 x4_1) x6_2).f0)) ∧ w'.cell? ⟨(ad300.add ((x6_2).toNat * 2)).block,(ad300.add ((x6_2).toNat * 2)).off + 1,none⟩ = some (.slice A300_1 ((rd_T43 (rd_L4 l0_0 x4_1) x6_2).f1).length c300_1) ∧ w'.cell? (ad298.add (x4_1).toNat) = some (.slice (some ad300) (rd_L4 l0_0 x4_1).length c299_0) ∧ w'.cell? (ad300.add ((x6_2).toNat * 2)) = some (.int .i64 ((rd_T43 (rd_L4 l0_0 x4_1) x6_2).f0)) ∧ w'.cell? ⟨(ad300.add ((x6_2).toNat * 2)).block,(ad300.add ((x6_2).toNat * 2)).off + 1,none⟩ = some (.slice A300_1 ((rd_T43 (rd_L4 l0_0 x4_1) x6_2).f1).length c300_1)) (ds := []) (mk_ 25 0) (by kernel_rfl) rfl rfl ⟨(blk_cell BK292.out 0).trans rfl,(cB_ HB.out hw299_0 :),(cB_ HB.out hw300_0 :),(cB_ HB.out hw300_1 :),(cB_ HB.out hw304_0 :),(cB_ HB.out hw305_0 :),(cB_ HB.out hw305_1 :)⟩ (fun hHeld => ?_);refine with_tabW spec_l6Copy.tab9 spec_l6Copy.bits9 (fun HT_ HW_ => ?_)
            generalize wr.drew = w23 at HO_5 HO_295000 BK292 BK293 BK294 HB HR299_0 HR300_1 HR304_0 HR305_1 hx299_0 hx300_0 hx300_1 hx304_0 hx305_0 hx305_1 hHeld ⊢
            refine pU_ 0 (some 26) (mk_ 25 1) ?_
            refine pU_ 1 (some 27) (mk_ 25 3) ?_
            refine pU_ 3 (some 29) (mk_ 25 11) ?_
            refine pU_ 6 (some 32) (mk_ 25 75) ?_
            refine pU_ 11 (some 37) (mk_ 25 2123) ?_
            refine pU_ 13 (some 39) (mk_ 25 10315) ?_
            refine pU_ 16 (some 42) (mk_ 25 75851) ?_
            refine tK7_ 2 (some 28) (mk_ 25 75855) ?_
            refine pU_ 4 (some 30) (mk_ 25 75871) ?_
            refine tK7_ 5 (some 31) (mk_ 25 75903) ?_
            refine pU_ 7 (some 33) (mk_ 25 76031) ?_
            refine pU_ 8 (some 34) (mk_ 25 76287) ?_
            refine tK7_ 9 (some 35) (mk_ 25 76799) ?_
            refine tK7_ 12 (some 38) (mk_ 25 80895) ?_
            refine pU_ 14 (some 40) (mk_ 25 97279) ?_
            refine tK7_ 15 (some 41) (mk_ 25 130047) ?_
            refine pU_ 17 (some 43) (mk_ 25 261119) ?_
            refine pU_ 18 (some 44) (mk_ 25 523263) ?_
            refine tK7_ 19 (some 45) (mk_ 25 1047551) ?_
            refine oN_ 10 (some 36) (mk_ 25 1048575) (fun K hK => ?_)
            refine Kd.R_lit_step (Kd.int .i64) _ 3 ?hg (N := 36) ?hd (xs := ([] : List Int)) (inner := []) (ok := fun _ => True) (okp := fun _ => True) ?hr ?hp (fun _ hk => hk) trivial (Below.refl _ _) (Nat.le_refl _) (by simp) ?_;(case hd => rfl);(case hg => rfl);(case hr => first | (go_simp;done) | (go_simp;rfl));(case hp => exact (Reps.none _ _))
            intro v302 w24 ho25 hb hg_ hnew_
            clear hg_ hnew_
            (first | rw [← Ny301.out] at ho25 | (simp only [Int.reduceToNat] at ho25;rw [← Ny301.out] at ho25))
            have n0 := aM_ (Kd.S_elder' (by (with_reducible repeat (first | apply Kd.S_alloc | apply Kd.S_drewN | apply Kd.S_drew));exact HO_5.out) (Kd.R_base ho25) hb)
            have n1 := aM_ (Kd.R_elder' (by (with_reducible repeat (first | apply rA_ | apply rN_ | apply rD_));exact HO_295000.out) (Kd.R_base ho25) hb)
            have n2 := aM_ (Kd.R_lower ho25 (below_size (gB_ HB.out)))
            have n3 := aM_ (nB_ BK292.out hb)
            have n4 := aM_ (nB_ BK293.out hb)
            have n5 := aM_ (nB_ BK294.out hb)
            have n6 := aM_ (sT_ HB.out hb)
            clear HO_5
            clear HO_295000
            clear BK292
            clear BK293
            clear BK294
            clear HB
            have HO_5 := n0
            have HO_295000 := n1
            have HO303 := n2
            have BK292 := n3
            have BK293 := n4
            have BK294 := n5
            have HB := n6
            clear n0 n1 n2 n3 n4 n5 n6
            clear hb ho25
            refine hK.out _ _ ⟨(blk_cell BK292.out 0).trans rfl,(cB_ HB.out hw299_0 :),(cB_ HB.out hw300_0 :),(cB_ HB.out hw300_1 :),(cB_ HB.out hw304_0 :),(cB_ HB.out hw305_0 :),(cB_ HB.out hw305_1 :)⟩ (fun hHeld => ?_)
            clear hK K
            refine norm_ (a' := ?_) ?_ ?_
            rotate_left
            ·show Act.put _ (some 36) _ = _
             simp only [pt_,pn_,sI_,s0_,s1_,i64_w,i32_w]
             rfl
            refine oN_ 20 (some 46) (mk_ 25 2097151) (fun K hK => ?_)
            refine Kd.R_append_rows_step (Kd.int .i64) (w0 := w) w.heap.size (by rfl) (.tmp 36) (.tmp 45) 31 3 (.int .i64 0) 8 rfl Try.underlying31 info3 rfl (by decide) (by omega) v302 y301 ((rd_T43 (rd_L4 l0_0 x4_1) x6_2).f1) _ _ _ (fun _ => True) (fun _ => False) rfl rfl ?aO ?aR (fun _ _ h => h) (fun _ h => h.elim) ?aF ?aB ?aS ?aL ?_
            (case aR => repeat (first | exact (Kd.C_below HR305_1.out HB.out) | (with_reducible refine Kd.C_alloc ?_ _) | (with_reducible refine Kd.C_drewN ?_ _) | (with_reducible refine Kd.C_drew ?_)))
            (case aB => exact (gB_ HB.out))
            (case aF => exact (fun _ _ => trivial))
            (case aO => exact (by (with_reducible repeat (first | apply rA_ | apply rN_ | apply rD_));exact HO303.out))
            (case aS => exact (below_size (gB_ HB.out)))
            (case aL => have := LMc18.out;omega)
            intro v307 w26 ho hb hg hat
            rw [← Ny306.out] at ho
            have n0 := aM_ (Kd.S_after (ok := (fun _ => True)) (by (with_reducible repeat (first | apply Kd.S_alloc | apply Kd.S_drewN | apply Kd.S_drew));exact HO_5.out) hg hat)
            have n1 := aM_ (Kd.R_after (ok := (fun k_ => some k_ ≠ (u5 : Value).ownBlock)) (by (with_reducible repeat (first | apply rA_ | apply rN_ | apply rD_));exact HO_295000.out) hg hat)
            have n2 := aM_ (blk_grown (g := gb292) (o := .cells #[.slice (some ad298) l0_0.length c0_0] 24 (0,0)) (by (with_reducible repeat (first | refine bN_ ?_ _ | refine bD_ ?_ | refine bA_ ?_ _));exact BK292.out) hg (Kd.R_ne HO303.out BK292.out (by decide)))
            have n3 := aM_ (blk_grown (g := gb293) (o := .cells #[.slice none 0 0] 24 (0,0)) (by (with_reducible repeat (first | refine bN_ ?_ _ | refine bD_ ?_ | refine bA_ ?_ _));exact BK293.out) hg (Kd.R_ne HO303.out BK293.out (by decide)))
            have n4 := aM_ (blk_grown (g := gb294) (o := .cells #[u2950] 24 (0,0)) (by (with_reducible repeat (first | refine bN_ ?_ _ | refine bD_ ?_ | refine bA_ ?_ _));exact BK294.out) hg (Kd.R_ne HO303.out BK294.out (by decide)))
            have n5 := aM_ (hb)
            have n6 := aM_ (ho)
            clear HO_5
            clear HO_295000
            clear BK292
            clear BK293
            clear BK294
            clear HB
            clear HO303
            have HO_5 := n0
            have HO_295000 := n1
            have BK292 := n2
            have BK293 := n3
            have BK294 := n4
            have HB := n5
            have HO308 := n6
            clear n0 n1 n2 n3 n4 n5 n6
            clear ho hb hg hat
            obtain ⟨Ao27,co27,eo27⟩ := Kd.R_slice HO308.out
            (first | subst eo27 | (injection eo27 with f1_ f2_ f3_;have f4_ := f1_.symm;have f5_ := f3_.symm;clear f1_ f2_ f3_;subst f4_;subst f5_))
            refine hK.out _ _ ⟨(blk_cell BK292.out 0).trans rfl,(cB_ HB.out hw299_0 :),(cB_ HB.out hw300_0 :),(cB_ HB.out hw300_1 :),(cB_ HB.out hw304_0 :),(cB_ HB.out hw305_0 :),(cB_ HB.out hw305_1 :)⟩ (fun hHeld => ?_)
            clear hK K
            refine norm_ (a' := ?_) ?_ ?_
            rotate_left
            ·show Act.put _ (some 46) _ = _
             simp only [pt_,pn_,sI_,s0_,s1_,i64_w,i32_w]
             rfl
            refine pU_ 21 (some 47) (mk_ 25 4194303) ?_
            refine oN_ 22 (some 48) (mk_ 25 8388607) (fun K hK => ?_)
            refine value_ (w1 := ?_) (v := ?_) (by rfl) rfl ?_ ?_
            rotate_left 2
            ·go_simp
             constructor
             ·rfl
             ·rfl
            refine hK.out _ _ ⟨(blk_cell (blk_alloc BK292.out _) 0).trans rfl,(World.cell?_alloc_lt _ _ _ (World.block_lt_of_cell? _ _ ((cB_ HB.out hw299_0 :)))).trans ((cB_ HB.out hw299_0 :)),(World.cell?_alloc_lt _ _ _ (World.block_lt_of_cell? _ _ ((cB_ HB.out hw300_0 :)))).trans ((cB_ HB.out hw300_0 :)),(World.cell?_alloc_lt _ _ _ (World.block_lt_of_cell? _ _ ((cB_ HB.out hw300_1 :)))).trans ((cB_ HB.out hw300_1 :)),(World.cell?_alloc_lt _ _ _ (World.block_lt_of_cell? _ _ ((cB_ HB.out hw304_0 :)))).trans ((cB_ HB.out hw304_0 :)),(World.cell?_alloc_lt _ _ _ (World.block_lt_of_cell? _ _ ((cB_ HB.out hw305_0 :)))).trans ((cB_ HB.out hw305_0 :)),(World.cell?_alloc_lt _ _ _ (World.block_lt_of_cell? _ _ ((cB_ HB.out hw305_1 :)))).trans ((cB_ HB.out hw305_1 :))⟩ (fun hHeld => ?_)
            clear hK K
            refine norm_ (a' := ?_) ?_ ?_
            rotate_left
            ·show Act.put _ (some 48) _ = _
             simp only [pt_,pn_,sI_,s0_,s1_,i64_w,i32_w]
             rfl
            refine oN_ 23 (some 49) (mk_ 25 16777215) (fun K hK => ?_)
            refine Kd.S_append_step k43 (w0 := w) w.heap.size (by rfl) (.tmp 26) (.tmp 48) 44 43 (.agg #[(.int .i64 0),(.slice none 0 0)]) 32 rfl Try.underlying44 info43 rfl (by decide) (by omega) u5 x5_2 (⟨(rd_T43 (rd_L4 l0_0 x4_1) x6_2).f0,y306⟩ : S43) [.int .i64 ((rd_T43 (rd_L4 l0_0 x4_1) x6_2).f0),.slice Ao27 y306.length co27] (fun _ => True) (fun k_ => some k_ = (.slice Ao27 y306.length co27 : Value).ownBlock) rfl rfl ?aP (fun k_ hk_ => ((Kd.R_mono (ok' := fun k_ => ((fun _ => True)) k_ ∧ some k_ ≠ (u5 : Value).ownBlock) (Kd.R_apart' (HO308.out) (Kd.S_typed HO_5.out) (by decide)) (fun k_ hk => ⟨trivial,hk.2⟩))).1 k_ hk_.symm) ?aF ?aO ?aB ?aS ?aL ?_
            (case aP => exact k43_mkM _ _ _ (⟨(rd_T43 (rd_L4 l0_0 x4_1) x6_2).f0,y306⟩ : S43) (Kd.R_mono (Kd.R_tight rfl (Kd.R_mono (ok' := fun k_ => ((fun _ => True)) k_ ∧ some k_ ≠ (u5 : Value).ownBlock) (Kd.R_apart' (HO308.out) (Kd.S_typed HO_5.out) (by decide)) (fun k_ hk => ⟨trivial,hk.2⟩))) (fun _ h_ => h_)))
            (case aB => exact (gB_ HB.out))
            (case aF => exact (fun _ _ => trivial))
            (case aO => exact (by (with_reducible repeat (first | apply Kd.S_alloc | apply Kd.S_drewN | apply Kd.S_drew));exact Kd.S_mono HO_5.out (fun k_ hk => ⟨trivial,fun e_ => hk.2 e_⟩)))
            (case aS => exact (below_size (gB_ HB.out)))
            (case aL => have := LMc19.out;omega)
            intro v310 w28 ho hb hg hat
            rw [← Ny309.out] at ho
            have n0 := aM_ (Kd.R_after (ok := (fun k_ => some k_ ≠ (.slice Ao27 y306.length co27 : Value).ownBlock)) (by (with_reducible repeat (first | apply rA_ | apply rN_ | apply rD_));exact Kd.R_mono HO_295000.out (fun _ hk => ⟨hk.2,hk.1⟩)) hg hat)
            have n1 := aM_ (blk_grown (g := gb292) (o := .cells #[.slice (some ad298) l0_0.length c0_0] 24 (0,0)) (by (with_reducible repeat (first | refine bN_ ?_ _ | refine bD_ ?_ | refine bA_ ?_ _));exact BK292.out) hg (Kd.S_ne HO_5.out BK292.out (by decide)))
            have n2 := aM_ (blk_grown (g := gb293) (o := .cells #[.slice none 0 0] 24 (0,0)) (by (with_reducible repeat (first | refine bN_ ?_ _ | refine bD_ ?_ | refine bA_ ?_ _));exact BK293.out) hg (Kd.S_ne HO_5.out BK293.out (by decide)))
            have n3 := aM_ (blk_grown (g := gb294) (o := .cells #[u2950] 24 (0,0)) (by (with_reducible repeat (first | refine bN_ ?_ _ | refine bD_ ?_ | refine bA_ ?_ _));exact BK294.out) hg (Kd.S_ne HO_5.out BK294.out (by decide)))
            have n4 := aM_ (hb)
            have n5 := aM_ (ho)
            clear HO_295000
            clear BK292
            clear BK293
            clear BK294
            clear HB
            clear HO_5
            clear HO308
            have HO_295000 := n0
            have BK292 := n1
            have BK293 := n2
            have BK294 := n3
            have HB := n4
            have HO311 := n5
            clear n0 n1 n2 n3 n4 n5
            clear ho hb hg hat
            refine hK.out _ _ ⟨(blk_cell BK292.out 0).trans rfl,(cB_ HB.out hw299_0 :),(cB_ HB.out hw300_0 :),(cB_ HB.out hw300_1 :),(cB_ HB.out hw304_0 :),(cB_ HB.out hw305_0 :),(cB_ HB.out hw305_1 :)⟩ (fun hHeld => ?_)
            clear hK K
            refine norm_ (a' := ?_) ?_ ?_
            rotate_left
            ·show Act.put _ (some 49) _ = _
             simp only [pt_,pn_,sI_,s0_,s1_,i64_w,i32_w]
             rfl
            refine pU_ 24 (some 5) (mk_ 25 33554431) ?_
            refine done_ (done_of HT_.out (by kernel_rfl)) ?_
            try go_wp2
            go_roundg k2
            case measure => have := HK1.out;have := HK2.out;omega
            case rel => exact ⟨(y309),(wrap64 (x6_2 + 1)),(by first | rfl | (simp;done) | (simp [*];done)),H',⟨by have := HK1.out;have := HK2.out;omega⟩,⟨by (with_reducible repeat (first | apply Kd.S_alloc | apply Kd.S_drewN | apply Kd.S_drew));exact HO311.out⟩,⟨by (with_reducible repeat (first | apply rA_ | apply rN_ | apply rD_));exact Kd.R_mono HO_295000.out (fun _ hk => hk.2)⟩,⟨rW_ BK292.out⟩,⟨rW_ BK293.out⟩,⟨rW_ BK294.out⟩,⟨gW_ HB.out⟩⟩
           ·rw [if_neg c19] at H
            exact absurd H (by simp)
          ·rw [if_neg c18] at H
           exact absurd H (by simp)
         ·rw [if_neg c17] at H
          exact absurd H (by simp)
        ·rw [if_neg c16] at H
         have c16b0 : decide (x6_2 < ((rd_L4 l0_0 x4_1).length : Int)) = false := decide_eq_false c16
         clear c16
         by_cases c29 : x2950_1.length < 5864062014805
         ·rw [if_pos c29] at H
          have LMc29 := aM_ c29
          clear c29
          obtain ⟨y312,hy312⟩ : ∃ y_ : List (List (S43)),y_ = (x2950_1 ++ [x5_2]) := ⟨_,rfl⟩
          replace H : (spec_l6Copy.l0 k2 (wrap64 (x4_1 + 1)) l0_0 y312) = some r := by first | (rw [hy312];with_reducible exact H) | (have H2_ := (Option.bind_some _ _).symm.trans H;rw [hy312];with_reducible exact H2_) | (have H2_ := (Option.bind_some _ _).symm.trans H;with_reducible exact H2_) | with_reducible exact H | (rw [hy312];exact H) | exact H
          have Ny312 := aM_ hy312
          clear hy312
          have H' := aM_ H
          clear H
          have hnb30 := NB292_293.out
          have hnc30 := NB293_292.out
          have hnb31 := NB292_294.out
          have hnc31 := NB294_292.out
          have hcz32_0 : wr.cell? ⟨gb292,0,none⟩ = some (.slice A0_0 l0_0.length c0_0) := (blk_cell BK292.out 0).trans rfl
          have hfz32_0 := blk_frozen BK292.out 0
          have p298 : 0 ≤ (x4_1 : Int) := of_decide_eq_true (by first | (with_reducible assumption) | assumption)
          have q298 : x4_1 < (l0_0.length : Int) := of_decide_eq_true (by first | (with_reducible assumption) | assumption)
          obtain ⟨ad298,A298_0,c298_0,e298,hx298_0,hl298_0,hi298_0⟩ := at_L4 HR0_0.out x4_1 p298 q298
          cases e298
          replace hx298_0 := cB_ HB.out hx298_0
          have HR298_0 := aM_ hi298_0
          have HC298_0 := aM_ hl298_0
          clear hi298_0 hl298_0
          replace p298 := eq_true p298
          replace q298 := eq_true q298
          have hnb33 := NB294_293.out
          have hnc33 := NB293_294.out
          have hcz34_0 : wr.cell? ⟨gb294,0,none⟩ = some (u2950) := (blk_cell BK294.out 0).trans rfl
          have hfz34_0 := blk_frozen BK294.out 0
          obtain ⟨Ao36,co36,eo36⟩ := Kd.S_slice HO_5.out
          subst eo36
          go_wp2_with (first | ((with_reducible refine gate_builtin (b := .append) (xs := #[.tmp 51,.tmp 53]) rfl ?_);at_builtin;refine Kd.S_append (sslice 43 k43) (w0 := w00) w00.heap.size rfl (.tmp 51) (.tmp 53) 22 44 (.slice none 0 0) 24 rfl Try.underlying22 info44 rfl (by decide) (by omega) u2950 x2950_1 x5_2 [.slice Ao36 x5_2.length co36] (fun _ => True) (fun k_ => w.heap.size ≤ k_) rfl rfl ?aP HF.out ?aF ?aO ?aB ?aS ?aL ?_;(case aP => exact ⟨_,rfl,Kd.S_lower (Kd.S_mono (Kd.S_bound HO_5.out) (fun _ hk => hk.2.1)) (below_size HBo.out)⟩);(case aB => exact (below_step HBo.out HB.out));(case aF => exact (fun _ _ => trivial));(case aO => exact (Kd.S_mono (Kd.S_old HSo.out HB.out) (fun _ hk => ⟨trivial,Nat.not_le.2 hk.2⟩)));(case aS => exact (below_size (below_step HBo.out HB.out)));(case aL => have := LMc29.out;omega);intro v313 w35 ho hb hg hat;rw [← Ny312.out] at ho;have n0 := aM_ (blk_grown (g := gb292) (o := .cells #[.slice (some ad298) l0_0.length c0_0] 24 (0,0)) (by (with_reducible repeat (first | refine bN_ ?_ _ | refine bD_ ?_ | refine bA_ ?_ _));exact BK292.out) hg (Kd.R_ne HO_295000.out BK292.out (by decide)));have n1 := aM_ (blk_grown (g := gb293) (o := .cells #[.slice none 0 0] 24 (0,0)) (by (with_reducible repeat (first | refine bN_ ?_ _ | refine bD_ ?_ | refine bA_ ?_ _));exact BK293.out) hg (Kd.R_ne HO_295000.out BK293.out (by decide)));have n2 := aM_ (blk_grown (g := gb294) (o := .cells #[u2950] 24 (0,0)) (by (with_reducible repeat (first | refine bN_ ?_ _ | refine bD_ ?_ | refine bA_ ?_ _));exact BK294.out) hg (Kd.R_ne HO_295000.out BK294.out (by decide)));have n3 := aM_ (hb);have n4 := aM_ (ho);clear BK292;clear BK293;clear BK294;clear HB;clear HO_295000;clear HO_5;have BK292 := n0;have BK293 := n1;have BK294 := n2;have HB := n3;have HO314 := n4;clear n0 n1 n2 n3 n4;clear ho hb hg hat;obtain ⟨Ao37,co37,eo37⟩ := Kd.S_slice HO314.out;subst eo37;have hcz38_0 : w35.cell? ⟨gb294,0,none⟩ = some (u2950) := (blk_cell BK294.out 0).trans rfl;have hfz38_0 := blk_frozen BK294.out 0))
          go_roundg k2
          case measure => have := HK1.out;have := HK2.out;omega
          case rel => exact ⟨(wrap64 (x4_1 + 1)),(y312),(.slice Ao37 y312.length co37),(by first | rfl | (simp;done) | (simp [*];done)),H',⟨by have := HK1.out;have := HK2.out;omega⟩,⟨by (with_reducible repeat (first | apply Kd.S_alloc | apply Kd.S_drewN | apply Kd.S_drew));exact Kd.S_mono (Kd.S_far (p := ⟨gb294,0,none⟩) (Kd.S_types HO314.out BK294.out (by decide)) (fun _ hk => hk.2) (.slice Ao37 y312.length co37)) (fun _ hk => trivial)⟩,⟨by (with_reducible repeat (first | refine bN_ ?_ _ | refine bD_ ?_ | refine bA_ ?_ _));refine blk_far ?_ NB292_294.out _;(with_reducible repeat (first | refine bN_ ?_ _ | refine bD_ ?_ | refine bA_ ?_ _));exact BK292.out⟩,⟨by (with_reducible repeat (first | refine bN_ ?_ _ | refine bD_ ?_ | refine bA_ ?_ _));refine blk_far ?_ NB293_294.out _;(with_reducible repeat (first | refine bN_ ?_ _ | refine bD_ ?_ | refine bA_ ?_ _));exact BK293.out⟩,⟨by (with_reducible repeat (first | refine bN_ ?_ _ | refine bD_ ?_ | refine bA_ ?_ _));refine blk_put (cs := #[u2950]) ?_ 0 _ rfl;(with_reducible repeat (first | refine bN_ ?_ _ | refine bD_ ?_ | refine bA_ ?_ _));exact BK294.out⟩,⟨gW_ HB.out⟩⟩
         ·rw [if_neg c29] at H
          exact absurd H (by simp)
       ·rw [if_neg c15] at H
        exact absurd H (by simp)
      ·rw [if_neg c14] at H
       exact absurd H (by simp)
   ·rw [if_neg c8] at H
    have c8b0 : decide (x4_1 < (l0_0.length : Int)) = false := decide_eq_false c8
    clear c8
    obtain rfl := Option.some.inj H
    have hnb39 := NB292_293.out
    have hnc39 := NB293_292.out
    have hnb40 := NB292_294.out
    have hnc40 := NB294_292.out
    have hcz41_0 : wr.cell? ⟨gb292,0,none⟩ = some (.slice A0_0 l0_0.length c0_0) := (blk_cell BK292.out 0).trans rfl
    have hfz41_0 := blk_frozen BK292.out 0
    have hnb42 := NB294_293.out
    have hnc42 := NB293_294.out
    have hcz43_0 : wr.cell? ⟨gb294,0,none⟩ = some (u2950) := (blk_cell BK294.out 0).trans rfl
    have hfz43_0 := blk_frozen BK294.out 0
    obtain ⟨Ao44,co44,eo44⟩ := Kd.S_slice HO_295000.out
    subst eo44
    have hcz45_0 : wr.cell? ⟨gb293,0,none⟩ = some (.slice none 0 0) := (blk_cell BK293.out 0).trans rfl
    have hfz45_0 := blk_frozen BK293.out 0
    go_wp2
    refine bodyPost_ret (results_cell_row rfl _ _ gb293 24 #[.slice Ao44 x2950_1.length co44] (0,0) _ rfl (by (with_reducible repeat (first | refine bN_ ?_ _ | refine bD_ ?_ | refine bA_ ?_ _));refine blk_put (cs := #[.slice none 0 0]) ?_ 0 _ rfl;exact rW_ BK293.out) Try.underlying24 rfl (by kernel_rfl)) rfl ?_
    exact ⟨_,fR_,by (with_reducible repeat (first | apply Kd.S_alloc | apply Kd.S_drewN | apply Kd.S_drew));exact Kd.S_mono (Kd.S_far (p := ⟨gb293,0,none⟩) (Kd.S_types HO_295000.out BK293.out (by decide)) (fun _ hk => hk.2) (.slice Ao44 x2950_1.length co44)) (fun _ hk => trivial),gB_ HB.out⟩
end Go.Proofs.Ythbcnakmnbilhaa.PFnStore
