/- A part of the proof that the law FnLoad holds for every input: the words, functions and walks that its row needs, without a condition of their own. -/
import Derived.Test.YthbcnakmnbilhaaZFnLoada2
import Derived.Test.YthbcnakmnbilhaaZFnLoads
namespace Go.Proofs.Ythbcnakmnbilhaa.PFnLoad
open Go.RowKit Go.Proofs.YthbcnakmnbilhaaW.PrintWords Go.Proofs.YthbcnakmnbilhaaW.PrintLast Go.Proofs.YthbcnakmnbilhaaW.PrintMore
attribute [local go_sem] max2_int min2_int max_two min_two max_three min_three max_four min_four   -- for this text's walks alone
set_option linter.unusedVariables false
set_option linter.unusedSimpArgs false
def impl_Memory_load.f (k : Nat) (l0_0 : List (List (S43))) (l1 : List Int) (a2 : Int) (a3 : Int) (a4 : Bool) : Option (Int × List Int) := if 0 ≤ a2 then (if a2 < (l0_0.length : Int) then (if a2 < (l1.length : Int) then ((impl_copyInts.f l1).bind fun t129 => (if a2 < (t129.length : Int) then ((some (t129.set (a2 : Int).toNat (mx (wrap64 ((wrap64 (((rd_L4 l0_0 a2).length : Int) - 1)) - (mx a3 0))) (rd l1 a2)) : List Int)).bind fun y132 => (if 0 ≤ (mx (wrap64 ((wrap64 (((rd_L4 l0_0 a2).length : Int) - 1)) - (mx a3 0))) (rd l1 a2)) then (if (mx (wrap64 ((wrap64 (((rd_L4 l0_0 a2).length : Int) - 1)) - (mx a3 0))) (rd l1 a2)) < ((rd_L4 l0_0 a2).length : Int) then (if a4 = true then ((impl_Join.f k y132 ((rd_T43 (rd_L4 l0_0 a2) (mx (wrap64 ((wrap64 (((rd_L4 l0_0 a2).length : Int) - 1)) - (mx a3 0))) (rd l1 a2))).f1)).bind fun t136 => (some ((rd_T43 (rd_L4 l0_0 a2) (mx (wrap64 ((wrap64 (((rd_L4 l0_0 a2).length : Int) - 1)) - (mx a3 0))) (rd l1 a2))).f0,t136))) else (some ((rd_T43 (rd_L4 l0_0 a2) (mx (wrap64 ((wrap64 (((rd_L4 l0_0 a2).length : Int) - 1)) - (mx a3 0))) (rd l1 a2))).f0,y132))) else (none)) else (none))) else (none))) else (none)) else (none)) else (none)
set_option maxHeartbeats 8000000 in
set_option maxRecDepth 100000 in
theorem impl_Memory_load.calls (k : Nat) (g : Nat) (A0_0 : Option Addr) (c0_0 : Nat) (l0_0 : List (List (S43))) (A1 : Option Addr) (c1 : Nat) (l1 : List Int) (a2 : Int) (a3 : Int) (a4 : Bool) (r1 : Int) (r2 : List Int) (w : World) (hbk0 : w.heap[g]? = some (.cells #[.slice A0_0 l0_0.length c0_0] 24 (0,0))) (hr0_0 : Kd.C (Kd.slice 43 k43) w A0_0 l0_0.length l0_0) (hc0_0 : l0_0.length ≤ c0_0) (hr1 : Kd.C (Kd.int .i64) w A1 l1.length l1) (hc1 : l1.length ≤ c1) (h : impl_Memory_load.f k l0_0 l1 a2 a3 a4 = some (r1,r2)) :
  Calls Try.prog 60 #[.pointer (some ⟨g,0,none⟩),.slice A1 l1.length c1,.int .i64 a2,.int .i64 a3,.bool a4] w fun e w' => ∃ v1_ : Value,e = .returned (.tuple #[.int .i64 r1,v1_]) ∧ Kd.R (Kd.int .i64) 3 w' w.heap.size (fun _ => True) v1_ r2 ∧ Below w.heap.size w w' := by
 have BK126 := aM_ hbk0
 clear hbk0
 have hu24 := Try.underlying24
 have hu43 := Try.underlying43
 have HR0_0 := aM_ hr0_0
 have HC0_0 := aM_ hc0_0
 clear hr0_0 hc0_0
 have HR1 := aM_ hr1
 have HC1 := aM_ hc1
 clear hr1 hc1
 have HB := aM_ (Below.refl w.heap.size w)
 have H : (if 0 ≤ a2 then (if a2 < (l0_0.length : Int) then (if a2 < (l1.length : Int) then ((impl_copyInts.f l1).bind fun t129 => (if a2 < (t129.length : Int) then ((some (t129.set (a2 : Int).toNat (mx (wrap64 ((wrap64 (((rd_L4 l0_0 a2).length : Int) - 1)) - (mx a3 0))) (rd l1 a2)) : List Int)).bind fun y132 => (if 0 ≤ (mx (wrap64 ((wrap64 (((rd_L4 l0_0 a2).length : Int) - 1)) - (mx a3 0))) (rd l1 a2)) then (if (mx (wrap64 ((wrap64 (((rd_L4 l0_0 a2).length : Int) - 1)) - (mx a3 0))) (rd l1 a2)) < ((rd_L4 l0_0 a2).length : Int) then (if a4 = true then ((impl_Join.f k y132 ((rd_T43 (rd_L4 l0_0 a2) (mx (wrap64 ((wrap64 (((rd_L4 l0_0 a2).length : Int) - 1)) - (mx a3 0))) (rd l1 a2))).f1)).bind fun t136 => (some ((rd_T43 (rd_L4 l0_0 a2) (mx (wrap64 ((wrap64 (((rd_L4 l0_0 a2).length : Int) - 1)) - (mx a3 0))) (rd l1 a2))).f0,t136))) else (some ((rd_T43 (rd_L4 l0_0 a2) (mx (wrap64 ((wrap64 (((rd_L4 l0_0 a2).length : Int) - 1)) - (mx a3 0))) (rd l1 a2))).f0,y132))) else (none)) else (none))) else (none))) else (none)) else (none)) else (none)) = some (r1,r2) := h
 clear h
 by_cases c6 : 0 ≤ a2
 ·rw [if_pos c6] at H
  have c6b0 : decide (0 ≤ a2) = true := decide_eq_true c6
  clear c6
  by_cases c7 : a2 < (l0_0.length : Int)
  ·rw [if_pos c7] at H
   have c7b0 : decide (a2 < (l0_0.length : Int)) = true := decide_eq_true c7
   clear c7
   obtain ⟨ji8,hji8⟩ : ∃ j_ : Int,(mx a3 0) = j_ := ⟨_,rfl⟩
   replace H : (if a2 < (l1.length : Int) then ((impl_copyInts.f l1).bind fun t129 => (if a2 < (t129.length : Int) then ((some (t129.set (a2 : Int).toNat (mx (wrap64 ((wrap64 (((rd_L4 l0_0 a2).length : Int) - 1)) - (ji8))) (rd l1 a2)) : List Int)).bind fun y132 => (if 0 ≤ (mx (wrap64 ((wrap64 (((rd_L4 l0_0 a2).length : Int) - 1)) - (ji8))) (rd l1 a2)) then (if (mx (wrap64 ((wrap64 (((rd_L4 l0_0 a2).length : Int) - 1)) - (ji8))) (rd l1 a2)) < ((rd_L4 l0_0 a2).length : Int) then (if a4 = true then ((impl_Join.f k y132 ((rd_T43 (rd_L4 l0_0 a2) (mx (wrap64 ((wrap64 (((rd_L4 l0_0 a2).length : Int) - 1)) - (ji8))) (rd l1 a2))).f1)).bind fun t136 => (some ((rd_T43 (rd_L4 l0_0 a2) (mx (wrap64 ((wrap64 (((rd_L4 l0_0 a2).length : Int) - 1)) - (ji8))) (rd l1 a2))).f0,t136))) else (some ((rd_T43 (rd_L4 l0_0 a2) (mx (wrap64 ((wrap64 (((rd_L4 l0_0 a2).length : Int) - 1)) - (ji8))) (rd l1 a2))).f0,y132))) else (none)) else (none))) else (none))) else (none)) = some (r1,r2) := by first | (rw [hji8] at H;exact H) | (simp only [hji8] at H ⊢;exact H)
   (try (have hji8l : 0 ≤ ji8 := by (rw [← hji8];unfold mx;(repeat' split) <;> omega)))
   (try (have hji8m : 0 ≤ ji8 := by omega))
   have hji8_ : (if a3 < 0 then 0 else a3) = ji8 := hji8
   by_cases c9 : a2 < (l1.length : Int)
   ·rw [if_pos c9] at H
    have c9b0 : decide (a2 < (l1.length : Int)) = true := decide_eq_true c9
    clear c9
    obtain ⟨ji10,hji10⟩ : ∃ j_ : Int,(mx (wrap64 ((wrap64 (((rd_L4 l0_0 a2).length : Int) - 1)) - (ji8))) (rd l1 a2)) = j_ := ⟨_,rfl⟩
    replace H : ((impl_copyInts.f l1).bind fun t129 => (if a2 < (t129.length : Int) then ((some (t129.set (a2 : Int).toNat (ji10) : List Int)).bind fun y132 => (if 0 ≤ (ji10) then (if (ji10) < ((rd_L4 l0_0 a2).length : Int) then (if a4 = true then ((impl_Join.f k y132 ((rd_T43 (rd_L4 l0_0 a2) (ji10)).f1)).bind fun t136 => (some ((rd_T43 (rd_L4 l0_0 a2) (ji10)).f0,t136))) else (some ((rd_T43 (rd_L4 l0_0 a2) (ji10)).f0,y132))) else (none)) else (none))) else (none))) = some (r1,r2) := by first | (rw [hji10] at H;exact H) | (simp only [hji10] at H ⊢;exact H)
    have hji10_ : (if (wrap64 ((wrap64 (((rd_L4 l0_0 a2).length : Int) - 1)) - (ji8))) < (rd l1 a2) then (rd l1 a2) else (wrap64 ((wrap64 (((rd_L4 l0_0 a2).length : Int) - 1)) - (ji8)))) = ji10 := hji10
    replace H := Option.bind_eq_some_iff.mp H
    obtain ⟨t129,A110,H⟩ := H
    replace H : (if a2 < (t129.length : Int) then ((some (t129.set (a2 : Int).toNat (ji10) : List Int)).bind fun y132 => (if 0 ≤ (ji10) then (if (ji10) < ((rd_L4 l0_0 a2).length : Int) then (if a4 = true then ((impl_Join.f k y132 ((rd_T43 (rd_L4 l0_0 a2) (ji10)).f1)).bind fun t136 => (some ((rd_T43 (rd_L4 l0_0 a2) (ji10)).f0,t136))) else (some ((rd_T43 (rd_L4 l0_0 a2) (ji10)).f0,y132))) else (none)) else (none))) else (none)) = some (r1,r2) := H
    have A11 := aM_ A110
    clear A110
    by_cases c12 : a2 < (t129.length : Int)
    ·rw [if_pos c12] at H
     have c12b0 : decide (a2 < (t129.length : Int)) = true := decide_eq_true c12
     clear c12
     obtain ⟨y132,hy132⟩ : ∃ y_ : List Int,y_ = (t129.set (a2 : Int).toNat (ji10)) := ⟨_,rfl⟩
     replace H : (if 0 ≤ (ji10) then (if (ji10) < ((rd_L4 l0_0 a2).length : Int) then (if a4 = true then ((impl_Join.f k y132 ((rd_T43 (rd_L4 l0_0 a2) (ji10)).f1)).bind fun t136 => (some ((rd_T43 (rd_L4 l0_0 a2) (ji10)).f0,t136))) else (some ((rd_T43 (rd_L4 l0_0 a2) (ji10)).f0,y132))) else (none)) else (none)) = some (r1,r2) := by first | (rw [hy132];with_reducible exact H) | (have H2_ := (Option.bind_some _ _).symm.trans H;rw [hy132];with_reducible exact H2_) | (have H2_ := (Option.bind_some _ _).symm.trans H;with_reducible exact H2_) | with_reducible exact H | (rw [hy132];exact H) | exact H
     have Ny132 := aM_ hy132
     clear hy132
     by_cases c14 : 0 ≤ (ji10)
     ·rw [if_pos c14] at H
      have c14b0 : decide (0 ≤ (ji10)) = true := decide_eq_true c14
      clear c14
      by_cases c15 : (ji10) < ((rd_L4 l0_0 a2).length : Int)
      ·rw [if_pos c15] at H
       have c15b0 : decide ((ji10) < ((rd_L4 l0_0 a2).length : Int)) = true := decide_eq_true c15
       clear c15
       by_cases c16 : a4 = true
       ·subst c16
        have H1 : ((impl_Join.f k y132 ((rd_T43 (rd_L4 l0_0 a2) (ji10)).f1)).bind fun t136 => (some ((rd_T43 (rd_L4 l0_0 a2) (ji10)).f0,t136))) = some (r1,r2) := by rw [if_pos rfl] at H;exact H
        clear H
        have H := H1
        clear H1
        replace H := Option.bind_eq_some_iff.mp H
        obtain ⟨t136,A170,H⟩ := H
        replace H : (some ((rd_T43 (rd_L4 l0_0 a2) (ji10)).f0,t136)) = some (r1,r2) := H
        have A17 := aM_ A170
        clear A170
        simp only [Option.some.injEq,Prod.mk.injEq] at H
        obtain ⟨rfl,rfl⟩ := H
        go_enter Try.func60,Try.ntmps60
        have hcz19_0 : w.cell? ⟨g,0,none⟩ = some (.slice A0_0 l0_0.length c0_0) := (blk_cell BK126.out 0).trans rfl
        have hfz19_0 := blk_frozen BK126.out 0
        have p127 : 0 ≤ (a2 : Int) := of_decide_eq_true (by first | (with_reducible assumption) | assumption)
        have q127 : a2 < (l0_0.length : Int) := of_decide_eq_true (by first | (with_reducible assumption) | assumption)
        obtain ⟨ad127,A127_0,c127_0,e127,hx127_0,hl127_0,hi127_0⟩ := at_L4 HR0_0.out a2 p127 q127
        cases e127
        replace hx127_0 := cB_ HB.out hx127_0
        have HR127_0 := aM_ hi127_0
        have HC127_0 := aM_ hl127_0
        clear hi127_0 hl127_0
        replace p127 := eq_true p127
        replace q127 := eq_true q127
        have p128 : 0 ≤ (a2 : Int) := of_decide_eq_true (by first | (with_reducible assumption) | assumption)
        have q128 : a2 < (l1.length : Int) := of_decide_eq_true (by first | (with_reducible assumption) | assumption)
        obtain ⟨ad128,e128,hx128_0⟩ := Kd.at_int HR1.out a2 p128 q128
        cases e128
        replace hx128_0 := cB_ HB.out hx128_0
        replace p128 := eq_true p128
        replace q128 := eq_true q128
        go_wp2_with (first | ((with_reducible refine gate_callee (f := 58) rfl ?_);refine gL_ (some 35) Try.func58 #[.slice (some ad128) l1.length c1] ?_;(with_reducible refine (impl_copyInts.calls _ _ l1 t129 _ ?side1 ?side2 A11.out).mono ?_);(case side1 => exact cS_ (Kd.C_below HR1.out HB.out));(case side2 => exact HC1.out);rintro e w20 ⟨v130,rfl,ho0,hb⟩;refine ⟨_,rfl,?_⟩;have n0 := aM_ (Kd.R_lower ho0 (below_size (gB_ HB.out)));have n1 := aM_ (blk_below (g := g) (o := .cells #[.slice (some ad127) l0_0.length c0_0] 24 (0,0)) (by (with_reducible repeat (first | refine bN_ ?_ _ | refine bD_ ?_ | refine bA_ ?_ _));exact BK126.out) hb);have n2 := aM_ (sT_ HB.out hb);clear BK126;clear HB;have HO131 := n0;have BK126 := n1;have HB := n2;clear n0 n1 n2;(try clear ho0);have p13 : 0 ≤ (a2 : Int) := of_decide_eq_true (by first | (with_reducible assumption) | assumption);have q13 : (a2 : Int) < ((t129.length : Int) : Int) := of_decide_eq_true (by first | (with_reducible assumption) | assumption);obtain ⟨go13,co13,eo13,gb13,gl13,cl13,HG13⟩ := Kd.R_form HO131.out (by omega);(first | cases eo13 | (injection eo13 with ea_ en_ ec_;(first | subst ea_ | (injection ea_ with ea_;subst ea_));subst ec_;clear en_));have GB13 := aM_ gb13;have GG13 := aM_ HG13;clear gb13 gl13 HG13;obtain ⟨hx13_0,hf13_0⟩ := Kd.R_celln 0 HO131.out (a2 : Int) p13 q13;replace p13 := eq_true p13;replace q13 := eq_true q13;obtain ⟨hy21_,hz21_⟩ := Kd.R_celln 0 HO131.out (a2 : Int) (of_decide_eq_true (by first | (with_reducible assumption) | assumption)) (of_decide_eq_true (by first | (with_reducible assumption) | assumption));have HP21 := Kd.R_putg HO131.out (a2 : Int) ji10) | ((with_reducible refine gate_store (t := 3) (p := 39) rfl ?_);refine store_event (t := 3) (p := 39) (v := ?vo_w22) (w1 := (w20.setCell ⟨go13,(a2 : Int).toNat,none⟩ (.int .i64 ji10))) ?hg ?ho ?hn ?hr ?_;(case ho => rfl);(case hg => rfl);(case hn => rfl);(case hr => first | (go_simp;done) | (go_simp;rfl));intro w22 hw;have hg : w20.grownBy w22 (some go13) := (by rw [hw];exact HP21.2);have hp_ : Kd.R (Kd.int .i64) 3 w22 w.heap.size (fun _ => True) (.slice (some ⟨go13,0,none⟩) t129.length co13) y132 := (by rw [hw,Ny132.out];exact HP21.1);clear HP21;have n0 := aM_ (blk_grown (g := g) (o := .cells #[.slice (some ad127) l0_0.length c0_0] 24 (0,0)) (by (with_reducible repeat (first | refine bN_ ?_ _ | refine bD_ ?_ | refine bA_ ?_ _));exact BK126.out) hg (Kd.R_ne HO131.out BK126.out (by decide)));have n1 := aM_ (hp_);have n2 := aM_ ((by rw [hw];exact below_set (HB.out) GB13.out : Below w.heap.size w w22));clear BK126;clear HO131;clear HB;have BK126 := n0;have HO131 := n1;have HB := n2;clear n0 n1 n2;clear hg hw hp_;have hcz23_0 : w22.cell? ⟨g,0,none⟩ = some (.slice (some ad127) l0_0.length c0_0) := (blk_cell BK126.out 0).trans rfl;have hfz23_0 := blk_frozen BK126.out 0;have p133 : 0 ≤ (a2 : Int) := of_decide_eq_true (by first | (with_reducible assumption) | assumption);have q133 : a2 < (l0_0.length : Int) := of_decide_eq_true (by first | (with_reducible assumption) | assumption);obtain ⟨ad133,A133_0,c133_0,e133,hx133_0,hl133_0,hi133_0⟩ := at_L4 HR0_0.out a2 p133 q133;obtain rfl : ad127 = ad133 := (by injection e133);replace hx133_0 := cB_ HB.out hx133_0;have HR133_0 := aM_ hi133_0;have HC133_0 := aM_ hl133_0;clear hi133_0 hl133_0;replace p133 := eq_true p133;replace q133 := eq_true q133;have p134 : 0 ≤ ((ji10) : Int) := of_decide_eq_true (by first | (with_reducible assumption) | assumption);have q134 : (ji10) < ((rd_L4 l0_0 a2).length : Int) := of_decide_eq_true (by first | (with_reducible assumption) | assumption);obtain ⟨ad134,A134_1,c134_1,e134,hx134_0,hx134_1,hl134_1,hi134_1⟩ := at_T43 HR133_0.out (ji10) p134 q134;cases e134;replace hx134_0 := cB_ HB.out hx134_0;replace hx134_1 := cB_ HB.out hx134_1;have HR134_1 := aM_ hi134_1;have HC134_1 := aM_ hl134_1;clear hi134_1 hl134_1;replace p134 := eq_true p134;replace q134 := eq_true q134) | ((with_reducible refine gate_dst (N := 15) rfl ?_);refine bX_ 15 (cs := #[.int .i64 0,.slice none 0 0]) (t := 43) ?_;intro gb135 hg w24 hbox hb;have n0 := aM_ (bR_ HO131.out hb);have n1 := aM_ (blk_below (g := g) (o := .cells #[.slice (some ad127) l0_0.length c0_0] 24 (0,0)) (by (with_reducible repeat (first | refine bN_ ?_ _ | refine bD_ ?_ | refine bA_ ?_ _));exact BK126.out) hb);have n2 := aM_ (sT_ HB.out hb);have n3 := aM_ (hbox);have n4 := aM_ (sZ_ hg HB.out);have n5 := aM_ (sZ_ hg HB.out);have n6 := aM_ ((by rw [hg];exact Nat.ne_of_lt (blk_lt (g := g) (o := .cells #[.slice (some ad127) l0_0.length c0_0] 24 (0,0)) (by (with_reducible repeat (first | refine bN_ ?_ _ | refine bD_ ?_ | refine bA_ ?_ _));exact BK126.out)) : g ≠ gb135));have n7 := aM_ ((by rw [hg];exact Nat.ne_of_gt (blk_lt (g := g) (o := .cells #[.slice (some ad127) l0_0.length c0_0] 24 (0,0)) (by (with_reducible repeat (first | refine bN_ ?_ _ | refine bD_ ?_ | refine bA_ ?_ _));exact BK126.out)) : gb135 ≠ g));clear HO131;clear BK126;clear HB;have HO131 := n0;have BK126 := n1;have HB := n2;have BK135 := n3;have GW135 := n4;have GE135 := n5;have NB126_135 := n6;have NB135_126 := n7;clear n0 n1 n2 n3 n4 n5 n6 n7;clear hb hbox hg;have hnb25 := NB135_126.out;have hnc25 := NB126_135.out;obtain ⟨hcz26_0,hcz26_1,hfz26_0,hfz26_1⟩ := bR2_ BK135.out) | ((with_reducible refine gate_callee (f := 94) rfl ?_);refine goesL_ (some 54) rfl rfl Try.func94 (by kernel_rfl) rfl #[.slice (some ⟨go13,0,none⟩) y132.length co13,.slice A134_1 ((rd_T43 (rd_L4 l0_0 a2) (ji10)).f1).length c134_1] rfl (by (try simp only [List.map_toArray,List.map_cons,List.map_nil]);first | done | (rw [show y132.length = t129.length from (Kd.R_reads' HO131.out).1.symm] <;> rfl) | (simp only [hji10];rfl) | rfl | (simp only [List.length_drop,List.length_take];rfl)) ?_;(with_reducible refine (impl_Join.calls k _ _ y132 _ _ ((rd_T43 (rd_L4 l0_0 a2) (ji10)).f1) t136 _ ?side1 ?side2 ?side3 ?side4 A17.out).mono ?_);(case side1 => refine (Kd.R_reads' (e := 3) (base := w.heap.size) (ok := fun k_ => True) (n := t129.length) (c := co13) ?_).2.2;exact (by (with_reducible repeat (first | apply rA_ | apply rN_ | apply rD_));exact (Kd.R_mono (Kd.R_far (p := ⟨gb135,1,none⟩) (Kd.R_far (p := ⟨gb135,0,none⟩) (Kd.R_types HO131.out BK135.out (by decide)) (fun _ hk => hk.2) (.int .i64 ((rd_T43 (rd_L4 l0_0 a2) (ji10)).f0))) (fun _ hk => hk.2) (.slice A134_1 ((rd_T43 (rd_L4 l0_0 a2) (ji10)).f1).length c134_1)) (fun _ h_ => h_.1))));(case side2 => rw [show y132.length = t129.length from (Kd.R_reads' HO131.out).1.symm];exact (Kd.R_reads' HO131.out).2.1);(case side3 => exact Kd.C_below HR134_1.out (gB_ HB.out));(case side4 => exact HC134_1.out);rintro e w27 ⟨v137,rfl,ho0,hb⟩;refine ⟨_,rfl,?_⟩;have n0 := aM_ (Kd.R_elder' (by (with_reducible repeat (first | apply rA_ | apply rN_ | apply rD_));exact (Kd.R_mono (Kd.R_far (p := ⟨gb135,1,none⟩) (Kd.R_far (p := ⟨gb135,0,none⟩) (Kd.R_types HO131.out BK135.out (by decide)) (fun _ hk => hk.2) (.int .i64 ((rd_T43 (rd_L4 l0_0 a2) (ji10)).f0))) (fun _ hk => hk.2) (.slice A134_1 ((rd_T43 (rd_L4 l0_0 a2) (ji10)).f1).length c134_1)) (fun _ h_ => h_.1))) (Kd.R_base ho0) hb);have n1 := aM_ (Kd.R_lower (Kd.R_new' ho0 (Kd.R_lt (by (with_reducible repeat (first | apply rA_ | apply rN_ | apply rD_));exact (Kd.R_mono (Kd.R_far (p := ⟨gb135,1,none⟩) (Kd.R_far (p := ⟨gb135,0,none⟩) (Kd.R_types HO131.out BK135.out (by decide)) (fun _ hk => hk.2) (.int .i64 ((rd_T43 (rd_L4 l0_0 a2) (ji10)).f0))) (fun _ hk => hk.2) (.slice A134_1 ((rd_T43 (rd_L4 l0_0 a2) (ji10)).f1).length c134_1)) (fun _ h_ => h_.1))))) (below_size (gB_ HB.out)));have n2 := aM_ (blk_below (g := g) (o := .cells #[.slice (some ad127) l0_0.length c0_0] 24 (0,0)) (rWf_ BK126.out) hb);have n3 := aM_ (blk_below (g := gb135) (o := .cells #[.int .i64 ((rd_T43 (rd_L4 l0_0 a2) (ji10)).f0),.slice A134_1 ((rd_T43 (rd_L4 l0_0 a2) (ji10)).f1).length c134_1] 43 (0,0)) (by (with_reducible repeat (first | refine bN_ ?_ _ | refine bD_ ?_ | refine bA_ ?_ _));refine blk_put (cs := #[.int .i64 ((rd_T43 (rd_L4 l0_0 a2) (ji10)).f0),.slice none 0 0]) ?_ 1 _ rfl;refine blk_put (cs := #[.int .i64 0,.slice none 0 0]) ?_ 0 _ rfl;exact rW_ BK135.out) hb);have n4 := aM_ (sT_ HB.out hb);clear HO131;clear BK126;clear BK135;clear HB;have HO131 := n0;have HO138 := n1;have BK126 := n2;have BK135 := n3;have HB := n4;clear n0 n1 n2 n3 n4;(try clear ho0);obtain ⟨hcz28_0,hcz28_1,hfz28_0,hfz28_1⟩ := bR2_ BK135.out))
        go_ret2
        exact ⟨_,by first | rfl | (simp [errW_none,errW_some] <;> rfl) | (simp only [← hji8,← hji10];first | rfl | (simp [errW_none,errW_some] <;> rfl)) | (simp [*,errW_none,errW_some] <;> rfl),by (with_reducible repeat (first | apply rA_ | apply rN_ | apply rD_));exact Kd.R_mono HO138.out (fun _ hk => trivial),gB_ HB.out⟩
       ·replace c16 := Bool.eq_false_iff.mpr c16
        subst c16
        have H1 : (some ((rd_T43 (rd_L4 l0_0 a2) (ji10)).f0,y132)) = some (r1,r2) := by rw [if_neg (show ¬ (false = true) by decide)] at H;exact H
        clear H
        have H := H1
        clear H1
        simp only [Option.some.injEq,Prod.mk.injEq] at H
        obtain ⟨rfl,rfl⟩ := H
        go_enter Try.func60,Try.ntmps60
        have hcz30_0 : w.cell? ⟨g,0,none⟩ = some (.slice A0_0 l0_0.length c0_0) := (blk_cell BK126.out 0).trans rfl
        have hfz30_0 := blk_frozen BK126.out 0
        have p127 : 0 ≤ (a2 : Int) := of_decide_eq_true (by first | (with_reducible assumption) | assumption)
        have q127 : a2 < (l0_0.length : Int) := of_decide_eq_true (by first | (with_reducible assumption) | assumption)
        obtain ⟨ad127,A127_0,c127_0,e127,hx127_0,hl127_0,hi127_0⟩ := at_L4 HR0_0.out a2 p127 q127
        cases e127
        replace hx127_0 := cB_ HB.out hx127_0
        have HR127_0 := aM_ hi127_0
        have HC127_0 := aM_ hl127_0
        clear hi127_0 hl127_0
        replace p127 := eq_true p127
        replace q127 := eq_true q127
        have p128 : 0 ≤ (a2 : Int) := of_decide_eq_true (by first | (with_reducible assumption) | assumption)
        have q128 : a2 < (l1.length : Int) := of_decide_eq_true (by first | (with_reducible assumption) | assumption)
        obtain ⟨ad128,e128,hx128_0⟩ := Kd.at_int HR1.out a2 p128 q128
        cases e128
        replace hx128_0 := cB_ HB.out hx128_0
        replace p128 := eq_true p128
        replace q128 := eq_true q128
        go_wp2_with (first | ((with_reducible refine gate_callee (f := 58) rfl ?_);refine gL_ (some 35) Try.func58 #[.slice (some ad128) l1.length c1] ?_;(with_reducible refine (impl_copyInts.calls _ _ l1 t129 _ ?side1 ?side2 A11.out).mono ?_);(case side1 => exact cS_ (Kd.C_below HR1.out HB.out));(case side2 => exact HC1.out);rintro e w31 ⟨v130,rfl,ho0,hb⟩;refine ⟨_,rfl,?_⟩;have n0 := aM_ (Kd.R_lower ho0 (below_size (gB_ HB.out)));have n1 := aM_ (blk_below (g := g) (o := .cells #[.slice (some ad127) l0_0.length c0_0] 24 (0,0)) (by (with_reducible repeat (first | refine bN_ ?_ _ | refine bD_ ?_ | refine bA_ ?_ _));exact BK126.out) hb);have n2 := aM_ (sT_ HB.out hb);clear BK126;clear HB;have HO131 := n0;have BK126 := n1;have HB := n2;clear n0 n1 n2;(try clear ho0);have p13 : 0 ≤ (a2 : Int) := of_decide_eq_true (by first | (with_reducible assumption) | assumption);have q13 : (a2 : Int) < ((t129.length : Int) : Int) := of_decide_eq_true (by first | (with_reducible assumption) | assumption);obtain ⟨go13,co13,eo13,gb13,gl13,cl13,HG13⟩ := Kd.R_form HO131.out (by omega);(first | cases eo13 | (injection eo13 with ea_ en_ ec_;(first | subst ea_ | (injection ea_ with ea_;subst ea_));subst ec_;clear en_));have GB13 := aM_ gb13;have GG13 := aM_ HG13;clear gb13 gl13 HG13;obtain ⟨hx13_0,hf13_0⟩ := Kd.R_celln 0 HO131.out (a2 : Int) p13 q13;replace p13 := eq_true p13;replace q13 := eq_true q13;obtain ⟨hy32_,hz32_⟩ := Kd.R_celln 0 HO131.out (a2 : Int) (of_decide_eq_true (by first | (with_reducible assumption) | assumption)) (of_decide_eq_true (by first | (with_reducible assumption) | assumption));have HP32 := Kd.R_putg HO131.out (a2 : Int) ji10) | ((with_reducible refine gate_store (t := 3) (p := 39) rfl ?_);refine store_event (t := 3) (p := 39) (v := ?vo_w33) (w1 := (w31.setCell ⟨go13,(a2 : Int).toNat,none⟩ (.int .i64 ji10))) ?hg ?ho ?hn ?hr ?_;(case ho => rfl);(case hg => rfl);(case hn => rfl);(case hr => first | (go_simp;done) | (go_simp;rfl));intro w33 hw;have hg : w31.grownBy w33 (some go13) := (by rw [hw];exact HP32.2);have hp_ : Kd.R (Kd.int .i64) 3 w33 w.heap.size (fun _ => True) (.slice (some ⟨go13,0,none⟩) t129.length co13) y132 := (by rw [hw,Ny132.out];exact HP32.1);clear HP32;have n0 := aM_ (blk_grown (g := g) (o := .cells #[.slice (some ad127) l0_0.length c0_0] 24 (0,0)) (by (with_reducible repeat (first | refine bN_ ?_ _ | refine bD_ ?_ | refine bA_ ?_ _));exact BK126.out) hg (Kd.R_ne HO131.out BK126.out (by decide)));have n1 := aM_ (hp_);have n2 := aM_ ((by rw [hw];exact below_set (HB.out) GB13.out : Below w.heap.size w w33));clear BK126;clear HO131;clear HB;have BK126 := n0;have HO131 := n1;have HB := n2;clear n0 n1 n2;clear hg hw hp_;have hcz34_0 : w33.cell? ⟨g,0,none⟩ = some (.slice (some ad127) l0_0.length c0_0) := (blk_cell BK126.out 0).trans rfl;have hfz34_0 := blk_frozen BK126.out 0;have p133 : 0 ≤ (a2 : Int) := of_decide_eq_true (by first | (with_reducible assumption) | assumption);have q133 : a2 < (l0_0.length : Int) := of_decide_eq_true (by first | (with_reducible assumption) | assumption);obtain ⟨ad133,A133_0,c133_0,e133,hx133_0,hl133_0,hi133_0⟩ := at_L4 HR0_0.out a2 p133 q133;obtain rfl : ad127 = ad133 := (by injection e133);replace hx133_0 := cB_ HB.out hx133_0;have HR133_0 := aM_ hi133_0;have HC133_0 := aM_ hl133_0;clear hi133_0 hl133_0;replace p133 := eq_true p133;replace q133 := eq_true q133;have p134 : 0 ≤ ((ji10) : Int) := of_decide_eq_true (by first | (with_reducible assumption) | assumption);have q134 : (ji10) < ((rd_L4 l0_0 a2).length : Int) := of_decide_eq_true (by first | (with_reducible assumption) | assumption);obtain ⟨ad134,A134_1,c134_1,e134,hx134_0,hx134_1,hl134_1,hi134_1⟩ := at_T43 HR133_0.out (ji10) p134 q134;cases e134;replace hx134_0 := cB_ HB.out hx134_0;replace hx134_1 := cB_ HB.out hx134_1;have HR134_1 := aM_ hi134_1;have HC134_1 := aM_ hl134_1;clear hi134_1 hl134_1;replace p134 := eq_true p134;replace q134 := eq_true q134) | ((with_reducible refine gate_dst (N := 15) rfl ?_);refine bX_ 15 (cs := #[.int .i64 0,.slice none 0 0]) (t := 43) ?_;intro gb135 hg w35 hbox hb;have n0 := aM_ (bR_ HO131.out hb);have n1 := aM_ (blk_below (g := g) (o := .cells #[.slice (some ad127) l0_0.length c0_0] 24 (0,0)) (by (with_reducible repeat (first | refine bN_ ?_ _ | refine bD_ ?_ | refine bA_ ?_ _));exact BK126.out) hb);have n2 := aM_ (sT_ HB.out hb);have n3 := aM_ (hbox);have n4 := aM_ (sZ_ hg HB.out);have n5 := aM_ (sZ_ hg HB.out);have n6 := aM_ ((by rw [hg];exact Nat.ne_of_lt (blk_lt (g := g) (o := .cells #[.slice (some ad127) l0_0.length c0_0] 24 (0,0)) (by (with_reducible repeat (first | refine bN_ ?_ _ | refine bD_ ?_ | refine bA_ ?_ _));exact BK126.out)) : g ≠ gb135));have n7 := aM_ ((by rw [hg];exact Nat.ne_of_gt (blk_lt (g := g) (o := .cells #[.slice (some ad127) l0_0.length c0_0] 24 (0,0)) (by (with_reducible repeat (first | refine bN_ ?_ _ | refine bD_ ?_ | refine bA_ ?_ _));exact BK126.out)) : gb135 ≠ g));clear HO131;clear BK126;clear HB;have HO131 := n0;have BK126 := n1;have HB := n2;have BK135 := n3;have GW135 := n4;have GE135 := n5;have NB126_135 := n6;have NB135_126 := n7;clear n0 n1 n2 n3 n4 n5 n6 n7;clear hb hbox hg;have hnb36 := NB135_126.out;have hnc36 := NB126_135.out;obtain ⟨hcz37_0,hcz37_1,hfz37_0,hfz37_1⟩ := bR2_ BK135.out))
        go_ret2
        exact ⟨_,by first | rfl | (simp [errW_none,errW_some] <;> rfl) | (simp only [← hji8,← hji10];first | rfl | (simp [errW_none,errW_some] <;> rfl)) | (simp [*,errW_none,errW_some] <;> rfl),by (with_reducible repeat (first | apply rA_ | apply rN_ | apply rD_));exact Kd.R_mono (Kd.R_far (p := ⟨gb135,1,none⟩) (Kd.R_far (p := ⟨gb135,0,none⟩) (Kd.R_types HO131.out BK135.out (by decide)) (fun _ hk => hk.2) (.int .i64 ((rd_T43 (rd_L4 l0_0 a2) (ji10)).f0))) (fun _ hk => hk.2) (.slice A134_1 ((rd_T43 (rd_L4 l0_0 a2) (ji10)).f1).length c134_1)) (fun _ hk => trivial),gB_ HB.out⟩
      ·rw [if_neg c15] at H
       exact absurd H (by simp)
     ·rw [if_neg c14] at H
      exact absurd H (by simp)
    ·rw [if_neg c12] at H
     exact absurd H (by simp)
   ·rw [if_neg c9] at H
    exact absurd H (by simp)
  ·rw [if_neg c7] at H
   exact absurd H (by simp)
 ·rw [if_neg c6] at H
  exact absurd H (by simp)
def impl_Load.j0 : Nat → List Int → Int → Int → Bool → Bool → List (List (S43)) → Option (Int × List Int)
  | 0,_,_,_,_,_,_ => none
  | k + 1,x1,x2,x3,x4,x25,x140000 => if x25 = true then ((impl_copyInts.f x1).bind fun t143 => (some (0,t143))) else ((impl_Memory_load.f k x140000 x1 x2 x3 x4).bind fun bt146 => (some (bt146.1,bt146.2)))
def impl_Load.f (k : Nat) (l0_0 : List (List (S43))) (l1 : List Int) (a2 : Int) (a3 : Int) (a4 : Bool) : Option (Int × List Int) := (impl_MemoryOk.f k l0_0).bind fun t140 => (if t140 = true then ((impl_ViewOk.f k l0_0 l1).bind fun t141 => (if t141 = true then ((impl_isCell.f a2).bind fun t142 => (impl_Load.j0 k l1 a2 a3 a4 (!t142) l0_0)) else (impl_Load.j0 k l1 a2 a3 a4 true l0_0))) else (impl_Load.j0 k l1 a2 a3 a4 true l0_0))
set_option maxHeartbeats 8000000 in
set_option maxRecDepth 100000 in
theorem impl_Load.calls (k : Nat) (A0_0 : Option Addr) (c0_0 : Nat) (l0_0 : List (List (S43))) (A1 : Option Addr) (c1 : Nat) (l1 : List Int) (a2 : Int) (a3 : Int) (a4 : Bool) (r1 : Int) (r2 : List Int) (w : World) (hr0_0 : Kd.C (Kd.slice 43 k43) w A0_0 l0_0.length l0_0) (hc0_0 : l0_0.length ≤ c0_0) (hr1 : Kd.C (Kd.int .i64) w A1 l1.length l1) (hc1 : l1.length ≤ c1) (h : impl_Load.f k l0_0 l1 a2 a3 a4 = some (r1,r2)) :
  Calls Try.prog 21 #[.agg #[.slice A0_0 l0_0.length c0_0],.slice A1 l1.length c1,.int .i64 a2,.int .i64 a3,.bool a4] w fun e w' => ∃ v1_ : Value,e = .returned (.tuple #[.int .i64 r1,v1_]) ∧ Kd.R (Kd.int .i64) 3 w' w.heap.size (fun _ => True) v1_ r2 ∧ Below w.heap.size w w' := by
 have hu24 := Try.underlying24
 have HR0_0 := aM_ hr0_0
 have HC0_0 := aM_ hc0_0
 clear hr0_0 hc0_0
 have HR1 := aM_ hr1
 have HC1 := aM_ hc1
 clear hr1 hc1
 have HB := aM_ (Below.refl w.heap.size w)
 have H : ((impl_MemoryOk.f k l0_0).bind fun t140 => (if t140 = true then ((impl_ViewOk.f k l0_0 l1).bind fun t141 => (if t141 = true then ((impl_isCell.f a2).bind fun t142 => (impl_Load.j0 k l1 a2 a3 a4 (!t142) l0_0)) else (impl_Load.j0 k l1 a2 a3 a4 true l0_0))) else (impl_Load.j0 k l1 a2 a3 a4 true l0_0))) = some (r1,r2) := h
 clear h
 have HC6 := aM_ H
 clear H
 go_enter Try.func21,Try.ntmps21
 go_upto_region 1 with (first | ((with_reducible refine gate_dst (N := 5) rfl ?_);refine bX_ 5 (cs := #[.slice A0_0 l0_0.length c0_0]) (t := 24) ?_;intro gb139 hg w7 hbox hb;have n0 := aM_ (sT_ HB.out hb);have n1 := aM_ (hbox);have n2 := aM_ (sZ_ hg HB.out);have n3 := aM_ (sZ_ hg HB.out);clear HB;have HB := n0;have BK139 := n1;have GW139 := n2;have GE139 := n3;clear n0 n1 n2 n3;clear hb hbox hg))
 (try simp only [Act.put,List.setIfInBounds_toArray,List.set_cons_zero,List.set_cons_succ])
 go_cut [25] (fun v25 wc => ∃ (kq : Nat) (x25_5 : Bool),v25 = .bool x25_5 ∧ Aside0 (impl_Load.j0 kq l1 a2 a3 a4 x25_5 l0_0 = some (r1,r2)) ∧ Aside0 (kq ≤ k) ∧ Aside0 (wc.heap[gb139]? = some (.cells #[(.slice A0_0 l0_0.length c0_0)] 24 (0,0))) ∧ Aside0 (Below w.heap.size w wc))
 case first =>
  have H := HC6.out
  clear HC6
  replace H := Option.bind_eq_some_iff.mp H
  obtain ⟨t140,A80,H⟩ := H
  replace H : (if t140 = true then ((impl_ViewOk.f k l0_0 l1).bind fun t141 => (if t141 = true then ((impl_isCell.f a2).bind fun t142 => (impl_Load.j0 k l1 a2 a3 a4 (!t142) l0_0)) else (impl_Load.j0 k l1 a2 a3 a4 true l0_0))) else (impl_Load.j0 k l1 a2 a3 a4 true l0_0)) = some (r1,r2) := H
  have A8 := aM_ A80
  clear A80
  by_cases c9 : t140 = true
  ·subst c9
   have H1 : ((impl_ViewOk.f k l0_0 l1).bind fun t141 => (if t141 = true then ((impl_isCell.f a2).bind fun t142 => (impl_Load.j0 k l1 a2 a3 a4 (!t142) l0_0)) else (impl_Load.j0 k l1 a2 a3 a4 true l0_0))) = some (r1,r2) := by rw [if_pos rfl] at H;exact H
   clear H
   have H := H1
   clear H1
   replace H := Option.bind_eq_some_iff.mp H
   obtain ⟨t141,A100,H⟩ := H
   replace H : (if t141 = true then ((impl_isCell.f a2).bind fun t142 => (impl_Load.j0 k l1 a2 a3 a4 (!t142) l0_0)) else (impl_Load.j0 k l1 a2 a3 a4 true l0_0)) = some (r1,r2) := H
   have A10 := aM_ A100
   clear A100
   by_cases c11 : t141 = true
   ·subst c11
    have H1 : ((impl_isCell.f a2).bind fun t142 => (impl_Load.j0 k l1 a2 a3 a4 (!t142) l0_0)) = some (r1,r2) := by rw [if_pos rfl] at H;exact H
    clear H
    have H := H1
    clear H1
    replace H := Option.bind_eq_some_iff.mp H
    obtain ⟨t142,A120,H⟩ := H
    replace H : (impl_Load.j0 k l1 a2 a3 a4 (!t142) l0_0) = some (r1,r2) := H
    have A12 := aM_ A120
    clear A120
    have H' := aM_ H
    clear H
    have hcz13_0 : w7.cell? ⟨gb139,0,none⟩ = some (.slice A0_0 l0_0.length c0_0) := (blk_cell BK139.out 0).trans rfl
    have hfz13_0 := blk_frozen BK139.out 0
    go_wp2_with (first | ((with_reducible refine gate_callee (f := 26) rfl ?_);refine gL_ (some 13) Try.func26 #[.agg #[.slice A0_0 l0_0.length c0_0]] ?_;(with_reducible refine (impl_MemoryOk.calls k _ _ l0_0 true _ ?side1 ?side2 A8.out).mono ?_);(case side1 => exact cS_ (Kd.C_below HR0_0.out HB.out));(case side2 => exact HC0_0.out);rintro e w14 ⟨rfl,hb⟩;refine ⟨_,rfl,?_⟩;have n0 := aM_ (nB_ BK139.out hb);have n1 := aM_ (sT_ HB.out hb);clear BK139;clear HB;have BK139 := n0;have HB := n1;clear n0 n1;have hcz15_0 : w14.cell? ⟨gb139,0,none⟩ = some (.slice A0_0 l0_0.length c0_0) := (blk_cell BK139.out 0).trans rfl;have hfz15_0 := blk_frozen BK139.out 0) | (go_at_call 28;(with_reducible refine (impl_ViewOk.calls k _ _ l0_0 _ _ l1 true _ ?side1 ?side2 ?side3 ?side4 A10.out).mono ?_);(case side1 => exact cS_ (Kd.C_below HR0_0.out HB.out));(case side2 => exact HC0_0.out);(case side3 => exact cS_ (Kd.C_below HR1.out HB.out));(case side4 => exact HC1.out);rintro e w16 ⟨rfl,hb⟩;have n0 := aM_ (nB_ BK139.out hb);have n1 := aM_ (sT_ HB.out hb);clear BK139;clear HB;have BK139 := n0;have HB := n1;clear n0 n1) | (go_at_call 56;(with_reducible refine (impl_isCell.calls a2 t142 _ A12.out).mono ?_);rintro e w' ⟨rfl,⟨nd,rfl⟩⟩))
    go_meet
    case rel => exact ⟨_,(!t142),(by first | rfl | (simp;done) | (simp [*];done)),H',⟨by first | omega | exact Nat.le_refl _⟩,⟨rW_ BK139.out⟩,⟨gW_ HB.out⟩⟩
   ·replace c11 := Bool.eq_false_iff.mpr c11
    subst c11
    have H1 : (impl_Load.j0 k l1 a2 a3 a4 true l0_0) = some (r1,r2) := by rw [if_neg (show ¬ (false = true) by decide)] at H;exact H
    clear H
    have H := H1
    clear H1
    have H' := aM_ H
    clear H
    have hcz17_0 : w7.cell? ⟨gb139,0,none⟩ = some (.slice A0_0 l0_0.length c0_0) := (blk_cell BK139.out 0).trans rfl
    have hfz17_0 := blk_frozen BK139.out 0
    go_wp2_with (first | ((with_reducible refine gate_callee (f := 26) rfl ?_);refine gL_ (some 13) Try.func26 #[.agg #[.slice A0_0 l0_0.length c0_0]] ?_;(with_reducible refine (impl_MemoryOk.calls k _ _ l0_0 true _ ?side1 ?side2 A8.out).mono ?_);(case side1 => exact cS_ (Kd.C_below HR0_0.out HB.out));(case side2 => exact HC0_0.out);rintro e w18 ⟨rfl,hb⟩;refine ⟨_,rfl,?_⟩;have n0 := aM_ (nB_ BK139.out hb);have n1 := aM_ (sT_ HB.out hb);clear BK139;clear HB;have BK139 := n0;have HB := n1;clear n0 n1;have hcz19_0 : w18.cell? ⟨gb139,0,none⟩ = some (.slice A0_0 l0_0.length c0_0) := (blk_cell BK139.out 0).trans rfl;have hfz19_0 := blk_frozen BK139.out 0) | (go_at_call 28;(with_reducible refine (impl_ViewOk.calls k _ _ l0_0 _ _ l1 false _ ?side1 ?side2 ?side3 ?side4 A10.out).mono ?_);(case side1 => exact cS_ (Kd.C_below HR0_0.out HB.out));(case side2 => exact HC0_0.out);(case side3 => exact cS_ (Kd.C_below HR1.out HB.out));(case side4 => exact HC1.out);rintro e w20 ⟨rfl,hb⟩;have n0 := aM_ (nB_ BK139.out hb);have n1 := aM_ (sT_ HB.out hb);clear BK139;clear HB;have BK139 := n0;have HB := n1;clear n0 n1))
    go_meet
    case rel => exact ⟨_,(true),(by first | rfl | (simp;done) | (simp [*];done)),H',⟨by first | omega | exact Nat.le_refl _⟩,⟨rW_ BK139.out⟩,⟨gW_ HB.out⟩⟩
  ·replace c9 := Bool.eq_false_iff.mpr c9
   subst c9
   have H1 : (impl_Load.j0 k l1 a2 a3 a4 true l0_0) = some (r1,r2) := by rw [if_neg (show ¬ (false = true) by decide)] at H;exact H
   clear H
   have H := H1
   clear H1
   have H' := aM_ H
   clear H
   have hcz21_0 : w7.cell? ⟨gb139,0,none⟩ = some (.slice A0_0 l0_0.length c0_0) := (blk_cell BK139.out 0).trans rfl
   have hfz21_0 := blk_frozen BK139.out 0
   go_wp2_with (first | ((with_reducible refine gate_callee (f := 26) rfl ?_);refine gL_ (some 13) Try.func26 #[.agg #[.slice A0_0 l0_0.length c0_0]] ?_;(with_reducible refine (impl_MemoryOk.calls k _ _ l0_0 false _ ?side1 ?side2 A8.out).mono ?_);(case side1 => exact cS_ (Kd.C_below HR0_0.out HB.out));(case side2 => exact HC0_0.out);rintro e w22 ⟨rfl,hb⟩;refine ⟨_,rfl,?_⟩;have n0 := aM_ (nB_ BK139.out hb);have n1 := aM_ (sT_ HB.out hb);clear BK139;clear HB;have BK139 := n0;have HB := n1;clear n0 n1))
   go_meet
   case rel => exact ⟨_,(true),(by first | rfl | (simp;done) | (simp [*];done)),H',⟨by first | omega | exact Nat.le_refl _⟩,⟨rW_ BK139.out⟩,⟨gW_ HB.out⟩⟩
 case rest =>
  clear HC6
  try clear c1
  try clear c2
  try clear p2
  try clear c9
  try clear c11
  try clear c21
  try clear hcz13_0 hfz13_0
  try clear hcz15_0 hfz15_0
  try clear hcz17_0 hfz17_0
  try clear hcz19_0 hfz19_0
  try clear hcz21_0 hfz21_0
  obtain ⟨kq,x25_5,rfl,HA,HJ5,BK139,HB⟩ := hcut
  cases kq with
  | zero => exact absurd HA.out (by simp [impl_Load.j0])
  | succ kj5 =>
   have H := HA.out
   clear HA
   simp only [impl_Load.j0] at H
   by_cases c23 : x25_5 = true
   ·subst c23
    have H1 : ((impl_copyInts.f l1).bind fun t143 => (some (0,t143))) = some (r1,r2) := by rw [if_pos rfl] at H;exact H
    clear H
    have H := H1
    clear H1
    replace H := Option.bind_eq_some_iff.mp H
    obtain ⟨t143,A240,H⟩ := H
    replace H : (some (0,t143)) = some (r1,r2) := H
    have A24 := aM_ A240
    clear A240
    simp only [Option.some.injEq,Prod.mk.injEq] at H
    obtain ⟨rfl,rfl⟩ := H
    go_wp2_with (first | ((with_reducible refine gate_callee (f := 58) rfl ?_);refine gL_ (some 27) Try.func58 #[.slice A1 l1.length c1] ?_;(with_reducible refine (impl_copyInts.calls _ _ l1 t143 _ ?side1 ?side2 A24.out).mono ?_);(case side1 => exact cS_ (Kd.C_below HR1.out HB.out));(case side2 => exact HC1.out);rintro e w25 ⟨v144,rfl,ho0,hb⟩;refine ⟨_,rfl,?_⟩;have n0 := aM_ (Kd.R_lower ho0 (below_size (gB_ HB.out)));have n1 := aM_ (nB_ BK139.out hb);have n2 := aM_ (sT_ HB.out hb);clear BK139;clear HB;have HO145 := n0;have BK139 := n1;have HB := n2;clear n0 n1 n2;(try clear ho0)))
    go_ret2
    exact ⟨_,fR_,by (with_reducible repeat (first | apply rA_ | apply rN_ | apply rD_));exact HO145.out,gB_ HB.out⟩
   ·replace c23 := Bool.eq_false_iff.mpr c23
    subst c23
    have H1 : ((impl_Memory_load.f kj5 l0_0 l1 a2 a3 a4).bind fun bt146 => (some (bt146.1,bt146.2))) = some (r1,r2) := by rw [if_neg (show ¬ (false = true) by decide)] at H;exact H
    clear H
    have H := H1
    clear H1
    replace H := Option.bind_eq_some_iff.mp H
    obtain ⟨⟨t146,t147⟩,A260,H⟩ := H
    replace H : (some (t146,t147)) = some (r1,r2) := H
    have A26 := aM_ A260
    clear A260
    simp only [Option.some.injEq,Prod.mk.injEq] at H
    obtain ⟨rfl,rfl⟩ := H
    have hcz27_0 : wc.cell? ⟨gb139,0,none⟩ = some (.slice A0_0 l0_0.length c0_0) := (blk_cell BK139.out 0).trans rfl
    have hfz27_0 := blk_frozen BK139.out 0
    go_wp2_with (first | ((with_reducible refine gate_callee (f := 60) rfl ?_);refine gL_ (some 32) Try.func60 #[.pointer (some ⟨gb139,0,none⟩),.slice A1 l1.length c1,.int .i64 a2,.int .i64 a3,.bool a4] ?_;(with_reducible refine (impl_Memory_load.calls kj5 gb139 A0_0 c0_0 l0_0 _ _ l1 a2 a3 a4 t146 t147 _ ?sideK ?side1 ?side2 ?side3 ?side4 A26.out).mono ?_);(case sideK => exact (by (with_reducible repeat (first | refine bN_ ?_ _ | refine bD_ ?_ | refine bA_ ?_ _));exact BK139.out));(case side1 => exact cS_ (Kd.C_below HR0_0.out HB.out));(case side2 => exact HC0_0.out);(case side3 => exact cS_ (Kd.C_below HR1.out HB.out));(case side4 => exact HC1.out);rintro e w28 ⟨v148,rfl,ho0,hb⟩;refine ⟨_,rfl,?_⟩;have n0 := aM_ (Kd.R_lower ho0 (below_size (gB_ HB.out)));have n1 := aM_ (nB_ BK139.out hb);have n2 := aM_ (sT_ HB.out hb);clear BK139;clear HB;have HO149 := n0;have BK139 := n1;have HB := n2;clear n0 n1 n2;(try clear ho0)))
    go_ret2
    exact ⟨_,fR_,by (with_reducible repeat (first | apply rA_ | apply rN_ | apply rD_));exact HO149.out,gB_ HB.out⟩
def spec_l1In.f (a0 : Int) (a1 : Int) (a2 : Int) : Option (Bool) := if a0 ≥ a1 then (some (decide (a0 ≤ a2))) else (some false)
set_option maxHeartbeats 8000000 in
set_option maxRecDepth 100000 in
theorem spec_l1In.calls (a0 : Int) (a1 : Int) (a2 : Int) (r : Bool) (w : World) (h : spec_l1In.f a0 a1 a2 = some r) :
  Calls Try.prog 69 #[.int .i64 a0,.int .i64 a1,.int .i64 a2] w fun e w' => e = .returned (.bool r) ∧ Drawn0 w w' := by
 have H : (if a0 ≥ a1 then (some (decide (a0 ≤ a2))) else (some false)) = some r := h
 clear h
 by_cases c4 : a0 ≥ a1
 ·rw [if_pos c4] at H
  have c4b0 : decide (a1 ≤ a0) = true := decide_eq_true c4
  clear c4
  obtain rfl := Option.some.inj H
  go_enter Try.func69,Try.ntmps69
  go_wp2
  go_ret
  exact ⟨by first | rfl | (simp;done) | (simp [*];done),by repeat (first | exact Drawn0.refl _ | apply Drawn0.step)⟩
 ·rw [if_neg c4] at H
  have c4b0 : decide (a1 ≤ a0) = false := decide_eq_false c4
  clear c4
  obtain rfl := Option.some.inj H
  go_enter Try.func69,Try.ntmps69
  go_wp2
  go_ret
  exact ⟨by first | rfl | (simp;done) | (simp [*];done),by repeat (first | exact Drawn0.refl _ | apply Drawn0.step)⟩
def spec_ViewOk.l0 : Nat → List Int → Int → List (List (S43)) → Option (Bool)
  | 0,_,_,_ => none
  | k + 1,x1,x5,x151000 => if x5 < (x1.length : Int) then (if 0 ≤ x5 then (if x5 < (x151000.length : Int) then ((spec_l1In.f (rd x1 x5) 0 (wrap64 (((rd_L4 x151000 x5).length : Int) - 1))).bind fun t153 => (if t153 = true then (spec_ViewOk.l0 k x1 (wrap64 (x5 + 1)) x151000) else (some false))) else (none)) else (none)) else (some true)
def spec_ViewOk.f (k : Nat) (l0_0 : List (List (S43))) (l1 : List Int) : Option (Bool) := if (l1.length : Int) = (l0_0.length : Int) then (spec_ViewOk.l0 k l1 0 l0_0) else (some false)
set_option maxHeartbeats 8000000 in
set_option maxRecDepth 100000 in
theorem spec_ViewOk.calls (k : Nat) (A0_0 : Option Addr) (c0_0 : Nat) (l0_0 : List (List (S43))) (A1 : Option Addr) (c1 : Nat) (l1 : List Int) (r : Bool) (w : World) (hr0_0 : Kd.C (Kd.slice 43 k43) w A0_0 l0_0.length l0_0) (hc0_0 : l0_0.length ≤ c0_0) (hr1 : Kd.C (Kd.int .i64) w A1 l1.length l1) (hc1 : l1.length ≤ c1) (h : spec_ViewOk.f k l0_0 l1 = some r) :
  Calls Try.prog 29 #[.agg #[.slice A0_0 l0_0.length c0_0],.slice A1 l1.length c1] w fun e w' => e = .returned (.bool r) ∧ Below w.heap.size w w' := by
 have hu24 := Try.underlying24
 have HR0_0 := aM_ hr0_0
 have HC0_0 := aM_ hc0_0
 clear hr0_0 hc0_0
 have HR1 := aM_ hr1
 have HC1 := aM_ hc1
 clear hr1 hc1
 have HB := aM_ (Below.refl w.heap.size w)
 have H : (if (l1.length : Int) = (l0_0.length : Int) then (spec_ViewOk.l0 k l1 0 l0_0) else (some false)) = some r := h
 clear h
 by_cases c3 : (l1.length : Int) = (l0_0.length : Int)
 ·rw [if_pos c3] at H
  have c3b0 : ((l1.length : Int) == (l0_0.length : Int)) = true := beq_iff_eq.mpr c3
  have c3b1 : ((l1.length : Int) != (l0_0.length : Int)) = false := bne_eq_false_iff_eq.mpr c3
  have c3b2 : (l1.length == l0_0.length) = true := by first | simpa using c3 | (simp at c3 ⊢;omega)
  clear c3
  have H' := aM_ H
  clear H
  go_enter Try.func29,Try.ntmps29
  go_wp2_with (first | ((with_reducible refine gate_dst (N := 2) rfl ?_);refine bX_ 2 (cs := #[.slice A0_0 l0_0.length c0_0]) (t := 24) ?_;intro gb150 hg w4 hbox hb;have n0 := aM_ (sT_ HB.out hb);have n1 := aM_ (hbox);have n2 := aM_ (sZ_ hg HB.out);have n3 := aM_ (sZ_ hg HB.out);clear HB;have HB := n0;have BK150 := n1;have GW150 := n2;have GE150 := n3;clear n0 n1 n2 n3;clear hb hbox hg;have hcz5_0 : w4.cell? ⟨gb150,0,none⟩ = some (.slice A0_0 l0_0.length c0_0) := (blk_cell BK150.out 0).trans rfl;have hfz5_0 := blk_frozen BK150.out 0))
  repeat (go_quiet (first | ((with_reducible refine gate_dst (N := 2) rfl ?_);refine bX_ 2 (cs := #[.slice A0_0 l0_0.length c0_0]) (t := 24) ?_;intro gb150 hg w4 hbox hb;have n0 := aM_ (sT_ HB.out hb);have n1 := aM_ (hbox);have n2 := aM_ (sZ_ hg HB.out);have n3 := aM_ (sZ_ hg HB.out);clear HB;have HB := n0;have BK150 := n1;have GW150 := n2;have GE150 := n3;clear n0 n1 n2 n3;clear hb hbox hg;have hcz5_0 : w4.cell? ⟨gb150,0,none⟩ = some (.slice A0_0 l0_0.length c0_0) := (blk_cell BK150.out 0).trans rfl;have hfz5_0 := blk_frozen BK150.out 0));try go_wp2_with (first | ((with_reducible refine gate_dst (N := 2) rfl ?_);refine bX_ 2 (cs := #[.slice A0_0 l0_0.length c0_0]) (t := 24) ?_;intro gb150 hg w4 hbox hb;have n0 := aM_ (sT_ HB.out hb);have n1 := aM_ (hbox);have n2 := aM_ (sZ_ hg HB.out);have n3 := aM_ (sZ_ hg HB.out);clear HB;have HB := n0;have BK150 := n1;have GW150 := n2;have GE150 := n3;clear n0 n1 n2 n3;clear hb hbox hg;have hcz5_0 : w4.cell? ⟨gb150,0,none⟩ = some (.slice A0_0 l0_0.length c0_0) := (blk_cell BK150.out 0).trans rfl;have hfz5_0 := blk_frozen BK150.out 0)))
  go_loopg [5] k (fun kq v5 w' => ∃ (x5_1 : Int),v5 = .int .i64 x5_1 ∧ Aside0 (spec_ViewOk.l0 kq l1 x5_1 l0_0 = some r) ∧ Aside0 (kq ≤ k) ∧ Aside0 (w'.heap[gb150]? = some (.cells #[(.slice A0_0 l0_0.length c0_0)] 24 (0,0))) ∧ Aside0 (Below w.heap.size w w'))
  case atStart => exact ⟨(0),(by first | rfl | (simp;done) | (simp [*];done)),H',⟨Nat.le_refl _⟩,⟨rW_ BK150.out⟩,⟨gW_ HB.out⟩⟩
  case round =>
   clear H'
   try clear c1
   try clear c2
   try clear p2
   try clear c3
   try clear c3b0
   try clear c3b1
   try clear c3b2
   try clear hcz5_0 hfz5_0
   obtain ⟨x5_1,rfl,HA,HK1,BK150,HB⟩ := hrel
   cases gk with
   | zero => exact absurd HA.out (by simp [spec_ViewOk.l0])
   | succ k1 =>
    have H := HA.out
    clear HA
    simp only [spec_ViewOk.l0] at H
    by_cases c6 : x5_1 < (l1.length : Int)
    ·rw [if_pos c6] at H
     have c6b0 : decide (x5_1 < (l1.length : Int)) = true := decide_eq_true c6
     clear c6
     by_cases c7 : 0 ≤ x5_1
     ·rw [if_pos c7] at H
      have c7b0 : decide (0 ≤ x5_1) = true := decide_eq_true c7
      clear c7
      by_cases c8 : x5_1 < (l0_0.length : Int)
      ·rw [if_pos c8] at H
       have c8b0 : decide (x5_1 < (l0_0.length : Int)) = true := decide_eq_true c8
       clear c8
       replace H := Option.bind_eq_some_iff.mp H
       obtain ⟨t153,A90,H⟩ := H
       replace H : (if t153 = true then (spec_ViewOk.l0 k1 l1 (wrap64 (x5_1 + 1)) l0_0) else (some false)) = some r := H
       have A9 := aM_ A90
       clear A90
       by_cases c10 : t153 = true
       ·subst c10
        have H1 : (spec_ViewOk.l0 k1 l1 (wrap64 (x5_1 + 1)) l0_0) = some r := by rw [if_pos rfl] at H;exact H
        clear H
        have H := H1
        clear H1
        have H' := aM_ H
        clear H
        have p151 : 0 ≤ (x5_1 : Int) := of_decide_eq_true (by first | (with_reducible assumption) | assumption)
        have q151 : x5_1 < (l1.length : Int) := of_decide_eq_true (by first | (with_reducible assumption) | assumption)
        obtain ⟨ad151,e151,hx151_0⟩ := Kd.at_int HR1.out x5_1 p151 q151
        cases e151
        replace hx151_0 := cB_ HB.out hx151_0
        replace p151 := eq_true p151
        replace q151 := eq_true q151
        have hcz11_0 : wr.cell? ⟨gb150,0,none⟩ = some (.slice A0_0 l0_0.length c0_0) := (blk_cell BK150.out 0).trans rfl
        have hfz11_0 := blk_frozen BK150.out 0
        have p152 : 0 ≤ (x5_1 : Int) := of_decide_eq_true (by first | (with_reducible assumption) | assumption)
        have q152 : x5_1 < (l0_0.length : Int) := of_decide_eq_true (by first | (with_reducible assumption) | assumption)
        obtain ⟨ad152,A152_0,c152_0,e152,hx152_0,hl152_0,hi152_0⟩ := at_L4 HR0_0.out x5_1 p152 q152
        cases e152
        replace hx152_0 := cB_ HB.out hx152_0
        have HR152_0 := aM_ hi152_0
        have HC152_0 := aM_ hl152_0
        clear hi152_0 hl152_0
        replace p152 := eq_true p152
        replace q152 := eq_true q152
        go_wp2_with (first | (go_at_call 69;(with_reducible refine (spec_l1In.calls (rd l1 x5_1) 0 (wrap64 (((rd_L4 l0_0 x5_1).length : Int) - 1)) true _ A9.out).mono ?_);rintro e w' ⟨rfl,⟨nd,rfl⟩⟩;(try first | exact ⟨rfl,_,World.drewN_drewN _ _ _⟩ | exact ⟨rfl,_,Eq.trans (World.drewN_drewN _ _ _) (congrArg (World.drewN _) (Nat.add_assoc _ _ _))⟩)))
        repeat (go_quiet (first | (go_at_call 69;(with_reducible refine (spec_l1In.calls (rd l1 x5_1) 0 (wrap64 (((rd_L4 l0_0 x5_1).length : Int) - 1)) true _ A9.out).mono ?_);rintro e w' ⟨rfl,⟨nd,rfl⟩⟩;(try first | exact ⟨rfl,_,World.drewN_drewN _ _ _⟩ | exact ⟨rfl,_,Eq.trans (World.drewN_drewN _ _ _) (congrArg (World.drewN _) (Nat.add_assoc _ _ _))⟩)));try go_wp2_with (first | (go_at_call 69;(with_reducible refine (spec_l1In.calls (rd l1 x5_1) 0 (wrap64 (((rd_L4 l0_0 x5_1).length : Int) - 1)) true _ A9.out).mono ?_);rintro e w' ⟨rfl,⟨nd,rfl⟩⟩;(try first | exact ⟨rfl,_,World.drewN_drewN _ _ _⟩ | exact ⟨rfl,_,Eq.trans (World.drewN_drewN _ _ _) (congrArg (World.drewN _) (Nat.add_assoc _ _ _))⟩))))
        go_roundg k1
        case measure => have := HK1.out;omega
        case rel => exact ⟨(wrap64 (x5_1 + 1)),(by first | rfl | (simp;done) | (simp [*];done)),H',⟨by have := HK1.out;omega⟩,⟨rW_ BK150.out⟩,⟨gW_ HB.out⟩⟩
       ·replace c10 := Bool.eq_false_iff.mpr c10
        subst c10
        have H1 : (some false) = some r := by rw [if_neg (show ¬ (false = true) by decide)] at H;exact H
        clear H
        have H := H1
        clear H1
        obtain rfl := Option.some.inj H
        have p151 : 0 ≤ (x5_1 : Int) := of_decide_eq_true (by first | (with_reducible assumption) | assumption)
        have q151 : x5_1 < (l1.length : Int) := of_decide_eq_true (by first | (with_reducible assumption) | assumption)
        obtain ⟨ad151,e151,hx151_0⟩ := Kd.at_int HR1.out x5_1 p151 q151
        cases e151
        replace hx151_0 := cB_ HB.out hx151_0
        replace p151 := eq_true p151
        replace q151 := eq_true q151
        have hcz12_0 : wr.cell? ⟨gb150,0,none⟩ = some (.slice A0_0 l0_0.length c0_0) := (blk_cell BK150.out 0).trans rfl
        have hfz12_0 := blk_frozen BK150.out 0
        have p152 : 0 ≤ (x5_1 : Int) := of_decide_eq_true (by first | (with_reducible assumption) | assumption)
        have q152 : x5_1 < (l0_0.length : Int) := of_decide_eq_true (by first | (with_reducible assumption) | assumption)
        obtain ⟨ad152,A152_0,c152_0,e152,hx152_0,hl152_0,hi152_0⟩ := at_L4 HR0_0.out x5_1 p152 q152
        cases e152
        replace hx152_0 := cB_ HB.out hx152_0
        have HR152_0 := aM_ hi152_0
        have HC152_0 := aM_ hl152_0
        clear hi152_0 hl152_0
        replace p152 := eq_true p152
        replace q152 := eq_true q152
        go_wp2_with (first | (go_at_call 69;(with_reducible refine (spec_l1In.calls (rd l1 x5_1) 0 (wrap64 (((rd_L4 l0_0 x5_1).length : Int) - 1)) false _ A9.out).mono ?_);rintro e w' ⟨rfl,⟨nd,rfl⟩⟩;(try first | exact ⟨rfl,_,World.drewN_drewN _ _ _⟩ | exact ⟨rfl,_,Eq.trans (World.drewN_drewN _ _ _) (congrArg (World.drewN _) (Nat.add_assoc _ _ _))⟩)))
        repeat (go_quiet (first | (go_at_call 69;(with_reducible refine (spec_l1In.calls (rd l1 x5_1) 0 (wrap64 (((rd_L4 l0_0 x5_1).length : Int) - 1)) false _ A9.out).mono ?_);rintro e w' ⟨rfl,⟨nd,rfl⟩⟩;(try first | exact ⟨rfl,_,World.drewN_drewN _ _ _⟩ | exact ⟨rfl,_,Eq.trans (World.drewN_drewN _ _ _) (congrArg (World.drewN _) (Nat.add_assoc _ _ _))⟩)));try go_wp2_with (first | (go_at_call 69;(with_reducible refine (spec_l1In.calls (rd l1 x5_1) 0 (wrap64 (((rd_L4 l0_0 x5_1).length : Int) - 1)) false _ A9.out).mono ?_);rintro e w' ⟨rfl,⟨nd,rfl⟩⟩;(try first | exact ⟨rfl,_,World.drewN_drewN _ _ _⟩ | exact ⟨rfl,_,Eq.trans (World.drewN_drewN _ _ _) (congrArg (World.drewN _) (Nat.add_assoc _ _ _))⟩))))
        go_ret
        exact fI_ HB.out
      ·rw [if_neg c8] at H
       exact absurd H (by simp)
     ·rw [if_neg c7] at H
      exact absurd H (by simp)
    ·rw [if_neg c6] at H
     have c6b0 : decide (x5_1 < (l1.length : Int)) = false := decide_eq_false c6
     clear c6
     obtain rfl := Option.some.inj H
     go_wp2
     repeat (go_quiet (fail);try go_wp2)
     go_ret
     exact fI_ HB.out
 ·rw [if_neg c3] at H
  have c3b0 : ((l1.length : Int) == (l0_0.length : Int)) = false := beq_eq_false_iff_ne.mpr c3
  have c3b1 : ((l1.length : Int) != (l0_0.length : Int)) = true := bne_iff_ne.mpr c3
  have c3b2 : (l1.length == l0_0.length) = false := by first | simpa using c3 | (simp at c3 ⊢;omega)
  obtain rfl := Option.some.inj H
  go_enter Try.func29,Try.ntmps29
  go_wp2_with (first | ((with_reducible refine gate_dst (N := 2) rfl ?_);refine bX_ 2 (cs := #[.slice A0_0 l0_0.length c0_0]) (t := 24) ?_;intro gb150 hg w13 hbox hb;have n0 := aM_ (sT_ HB.out hb);have n1 := aM_ (hbox);have n2 := aM_ (sZ_ hg HB.out);have n3 := aM_ (sZ_ hg HB.out);clear HB;have HB := n0;have BK150 := n1;have GW150 := n2;have GE150 := n3;clear n0 n1 n2 n3;clear hb hbox hg;have hcz14_0 : w13.cell? ⟨gb150,0,none⟩ = some (.slice A0_0 l0_0.length c0_0) := (blk_cell BK150.out 0).trans rfl;have hfz14_0 := blk_frozen BK150.out 0))
  repeat (go_quiet (first | ((with_reducible refine gate_dst (N := 2) rfl ?_);refine bX_ 2 (cs := #[.slice A0_0 l0_0.length c0_0]) (t := 24) ?_;intro gb150 hg w13 hbox hb;have n0 := aM_ (sT_ HB.out hb);have n1 := aM_ (hbox);have n2 := aM_ (sZ_ hg HB.out);have n3 := aM_ (sZ_ hg HB.out);clear HB;have HB := n0;have BK150 := n1;have GW150 := n2;have GE150 := n3;clear n0 n1 n2 n3;clear hb hbox hg;have hcz14_0 : w13.cell? ⟨gb150,0,none⟩ = some (.slice A0_0 l0_0.length c0_0) := (blk_cell BK150.out 0).trans rfl;have hfz14_0 := blk_frozen BK150.out 0));try go_wp2_with (first | ((with_reducible refine gate_dst (N := 2) rfl ?_);refine bX_ 2 (cs := #[.slice A0_0 l0_0.length c0_0]) (t := 24) ?_;intro gb150 hg w13 hbox hb;have n0 := aM_ (sT_ HB.out hb);have n1 := aM_ (hbox);have n2 := aM_ (sZ_ hg HB.out);have n3 := aM_ (sZ_ hg HB.out);clear HB;have HB := n0;have BK150 := n1;have GW150 := n2;have GE150 := n3;clear n0 n1 n2 n3;clear hb hbox hg;have hcz14_0 : w13.cell? ⟨gb150,0,none⟩ = some (.slice A0_0 l0_0.length c0_0) := (blk_cell BK150.out 0).trans rfl;have hfz14_0 := blk_frozen BK150.out 0)))
  go_ret
  exact fI_ HB.out
end Go.Proofs.Ythbcnakmnbilhaa.PFnLoad
