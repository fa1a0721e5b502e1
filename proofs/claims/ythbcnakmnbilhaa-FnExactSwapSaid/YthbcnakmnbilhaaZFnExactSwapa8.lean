/- A part of the proof that the law FnExactSwap holds for every input: the words, functions and walks that its row needs, without a condition of their own. -/
import Derived.Test.YthbcnakmnbilhaaZFnExactSwapa2
import Derived.Test.YthbcnakmnbilhaaZFnExactSwapa3
import Derived.Test.YthbcnakmnbilhaaZFnExactSwapa6
import Derived.Test.YthbcnakmnbilhaaZFnExactSwapa7
import Derived.Test.YthbcnakmnbilhaaZFnExactSwaps
namespace Go.Proofs.Ythbcnakmnbilhaa.PFnExactSwap
open Go.RowKit Go.Proofs.YthbcnakmnbilhaaW.PrintWords Go.Proofs.YthbcnakmnbilhaaW.PrintLast Go.Proofs.YthbcnakmnbilhaaW.PrintMore Go.Proofs.Ythbcnakmnbilhaa.SepMark
attribute [local go_sem] max2_int min2_int max_two min_two max_three min_three max_four min_four   -- for this text's walks alone
set_option linter.unusedVariables false
set_option linter.unusedSimpArgs false
def impl_Memory_load.f (k : Nat) (l0_0 : List (List (S43))) (l1 : List Int) (a2 : Int) (a3 : Int) (a4 : Bool) : Option (Int × List Int) := if 0 ≤ a2 then (if a2 < (l0_0.length : Int) then (if a2 < (l1.length : Int) then ((impl_copyInts.f l1).bind fun t230 => (if a2 < (t230.length : Int) then ((some (t230.set (a2 : Int).toNat (mx (wrap64 ((wrap64 (((rd_L3 l0_0 a2).length : Int) - 1)) - (mx a3 0))) (rd l1 a2)) : List Int)).bind fun y233 => (if 0 ≤ (mx (wrap64 ((wrap64 (((rd_L3 l0_0 a2).length : Int) - 1)) - (mx a3 0))) (rd l1 a2)) then (if (mx (wrap64 ((wrap64 (((rd_L3 l0_0 a2).length : Int) - 1)) - (mx a3 0))) (rd l1 a2)) < ((rd_L3 l0_0 a2).length : Int) then (if a4 = true then ((impl_Join.f k y233 ((rd_T43 (rd_L3 l0_0 a2) (mx (wrap64 ((wrap64 (((rd_L3 l0_0 a2).length : Int) - 1)) - (mx a3 0))) (rd l1 a2))).f1)).bind fun t237 => (some ((rd_T43 (rd_L3 l0_0 a2) (mx (wrap64 ((wrap64 (((rd_L3 l0_0 a2).length : Int) - 1)) - (mx a3 0))) (rd l1 a2))).f0, t237))) else (some ((rd_T43 (rd_L3 l0_0 a2) (mx (wrap64 ((wrap64 (((rd_L3 l0_0 a2).length : Int) - 1)) - (mx a3 0))) (rd l1 a2))).f0, y233))) else (none)) else (none))) else (none))) else (none)) else (none)) else (none)
set_option maxHeartbeats 8000000 in
set_option maxRecDepth 100000 in
theorem impl_Memory_load.calls (k : Nat) (g : Nat) (A0_0 : Option Addr) (c0_0 : Nat) (l0_0 : List (List (S43))) (A1 : Option Addr) (c1 : Nat) (l1 : List Int) (a2 : Int) (a3 : Int) (a4 : Bool) (r1 : Int) (r2 : List Int) (w : World) (hbk0 : w.heap[g]? = some (.cells #[.slice A0_0 l0_0.length c0_0] 24 (0, 0))) (hr0_0 : Kd.C (Kd.slice 43 k43) w A0_0 l0_0.length l0_0) (hc0_0 : l0_0.length ≤ c0_0) (hr1 : Kd.C (Kd.int .i64) w A1 l1.length l1) (hc1 : l1.length ≤ c1) (h : impl_Memory_load.f k l0_0 l1 a2 a3 a4 = some (r1, r2)) :
  Calls Try.prog 60 #[.pointer (some ⟨g, 0, none⟩), .slice A1 l1.length c1, .int .i64 a2, .int .i64 a3, .bool a4] w fun e w' => ∃ v1_ : Value, e = .returned (.tuple #[.int .i64 r1, v1_]) ∧ Kd.R (Kd.int .i64) 3 w' w.heap.size (fun _ => True) v1_ r2 ∧ Below w.heap.size w w' := by
 have BK227 := aM_ hbk0
 clear hbk0
 have hu24 := Try.underlying24
 have hu43 := Try.underlying43
 have HR0_0 := aM_ hr0_0
 have HC0_0 := aM_ hc0_0
 clear hr0_0 hc0_0
 have HR1 := aM_ hr1
 have HC1 := aM_ hc1
 clear hr1 hc1
 have HB := aM_ (Below.refl w.heap.size w)
 have H : (if 0 ≤ a2 then (if a2 < (l0_0.length : Int) then (if a2 < (l1.length : Int) then ((impl_copyInts.f l1).bind fun t230 => (if a2 < (t230.length : Int) then ((some (t230.set (a2 : Int).toNat (mx (wrap64 ((wrap64 (((rd_L3 l0_0 a2).length : Int) - 1)) - (mx a3 0))) (rd l1 a2)) : List Int)).bind fun y233 => (if 0 ≤ (mx (wrap64 ((wrap64 (((rd_L3 l0_0 a2).length : Int) - 1)) - (mx a3 0))) (rd l1 a2)) then (if (mx (wrap64 ((wrap64 (((rd_L3 l0_0 a2).length : Int) - 1)) - (mx a3 0))) (rd l1 a2)) < ((rd_L3 l0_0 a2).length : Int) then (if a4 = true then ((impl_Join.f k y233 ((rd_T43 (rd_L3 l0_0 a2) (mx (wrap64 ((wrap64 (((rd_L3 l0_0 a2).length : Int) - 1)) - (mx a3 0))) (rd l1 a2))).f1)).bind fun t237 => (some ((rd_T43 (rd_L3 l0_0 a2) (mx (wrap64 ((wrap64 (((rd_L3 l0_0 a2).length : Int) - 1)) - (mx a3 0))) (rd l1 a2))).f0, t237))) else (some ((rd_T43 (rd_L3 l0_0 a2) (mx (wrap64 ((wrap64 (((rd_L3 l0_0 a2).length : Int) - 1)) - (mx a3 0))) (rd l1 a2))).f0, y233))) else (none)) else (none))) else (none))) else (none)) else (none)) else (none)) = some (r1, r2) := h
 clear h
 by_cases c6 : 0 ≤ a2
 ·rw [if_pos c6] at H
  have c6b0 : decide (0 ≤ a2) = true := decide_eq_true c6
  clear c6
  by_cases c7 : a2 < (l0_0.length : Int)
  ·rw [if_pos c7] at H
   have c7b0 : decide (a2 < (l0_0.length : Int)) = true := decide_eq_true c7
   clear c7
   obtain ⟨ji8, hji8⟩ : ∃ j_ : Int, (mx a3 0) = j_ := ⟨_, rfl⟩
   replace H : (if a2 < (l1.length : Int) then ((impl_copyInts.f l1).bind fun t230 => (if a2 < (t230.length : Int) then ((some (t230.set (a2 : Int).toNat (mx (wrap64 ((wrap64 (((rd_L3 l0_0 a2).length : Int) - 1)) - (ji8))) (rd l1 a2)) : List Int)).bind fun y233 => (if 0 ≤ (mx (wrap64 ((wrap64 (((rd_L3 l0_0 a2).length : Int) - 1)) - (ji8))) (rd l1 a2)) then (if (mx (wrap64 ((wrap64 (((rd_L3 l0_0 a2).length : Int) - 1)) - (ji8))) (rd l1 a2)) < ((rd_L3 l0_0 a2).length : Int) then (if a4 = true then ((impl_Join.f k y233 ((rd_T43 (rd_L3 l0_0 a2) (mx (wrap64 ((wrap64 (((rd_L3 l0_0 a2).length : Int) - 1)) - (ji8))) (rd l1 a2))).f1)).bind fun t237 => (some ((rd_T43 (rd_L3 l0_0 a2) (mx (wrap64 ((wrap64 (((rd_L3 l0_0 a2).length : Int) - 1)) - (ji8))) (rd l1 a2))).f0, t237))) else (some ((rd_T43 (rd_L3 l0_0 a2) (mx (wrap64 ((wrap64 (((rd_L3 l0_0 a2).length : Int) - 1)) - (ji8))) (rd l1 a2))).f0, y233))) else (none)) else (none))) else (none))) else (none)) = some (r1, r2) := by first | (rw [hji8] at H; exact H) | (simp only [hji8] at H ⊢; exact H)
   (try (have hji8l : 0 ≤ ji8 := by (rw [← hji8]; unfold mx; (repeat' split) <;> omega)))
   (try (have hji8m : 0 ≤ ji8 := by omega))
   have hji8_ : (if a3 < 0 then 0 else a3) = ji8 := hji8
   by_cases c9 : a2 < (l1.length : Int)
   ·rw [if_pos c9] at H
    have c9b0 : decide (a2 < (l1.length : Int)) = true := decide_eq_true c9
    clear c9
    obtain ⟨ji10, hji10⟩ : ∃ j_ : Int, (mx (wrap64 ((wrap64 (((rd_L3 l0_0 a2).length : Int) - 1)) - (ji8))) (rd l1 a2)) = j_ := ⟨_, rfl⟩
    replace H : ((impl_copyInts.f l1).bind fun t230 => (if a2 < (t230.length : Int) then ((some (t230.set (a2 : Int).toNat (ji10) : List Int)).bind fun y233 => (if 0 ≤ (ji10) then (if (ji10) < ((rd_L3 l0_0 a2).length : Int) then (if a4 = true then ((impl_Join.f k y233 ((rd_T43 (rd_L3 l0_0 a2) (ji10)).f1)).bind fun t237 => (some ((rd_T43 (rd_L3 l0_0 a2) (ji10)).f0, t237))) else (some ((rd_T43 (rd_L3 l0_0 a2) (ji10)).f0, y233))) else (none)) else (none))) else (none))) = some (r1, r2) := by first | (rw [hji10] at H; exact H) | (simp only [hji10] at H ⊢; exact H)
    have hji10_ : (if (wrap64 ((wrap64 (((rd_L3 l0_0 a2).length : Int) - 1)) - (ji8))) < (rd l1 a2) then (rd l1 a2) else (wrap64 ((wrap64 (((rd_L3 l0_0 a2).length : Int) - 1)) - (ji8)))) = ji10 := hji10
    replace H := Option.bind_eq_some_iff.mp H
    obtain ⟨t230, A110, H⟩ := H
    replace H : (if a2 < (t230.length : Int) then ((some (t230.set (a2 : Int).toNat (ji10) : List Int)).bind fun y233 => (if 0 ≤ (ji10) then (if (ji10) < ((rd_L3 l0_0 a2).length : Int) then (if a4 = true then ((impl_Join.f k y233 ((rd_T43 (rd_L3 l0_0 a2) (ji10)).f1)).bind fun t237 => (some ((rd_T43 (rd_L3 l0_0 a2) (ji10)).f0, t237))) else (some ((rd_T43 (rd_L3 l0_0 a2) (ji10)).f0, y233))) else (none)) else (none))) else (none)) = some (r1, r2) := H
    have A11 := aM_ A110
    clear A110
    by_cases c12 : a2 < (t230.length : Int)
    ·rw [if_pos c12] at H
     have c12b0 : decide (a2 < (t230.length : Int)) = true := decide_eq_true c12
     clear c12
     obtain ⟨y233, hy233⟩ : ∃ y_ : List Int, y_ = (t230.set (a2 : Int).toNat (ji10)) := ⟨_, rfl⟩
     replace H : (if 0 ≤ (ji10) then (if (ji10) < ((rd_L3 l0_0 a2).length : Int) then (if a4 = true then ((impl_Join.f k y233 ((rd_T43 (rd_L3 l0_0 a2) (ji10)).f1)).bind fun t237 => (some ((rd_T43 (rd_L3 l0_0 a2) (ji10)).f0, t237))) else (some ((rd_T43 (rd_L3 l0_0 a2) (ji10)).f0, y233))) else (none)) else (none)) = some (r1, r2) := by first | (rw [hy233]; with_reducible exact H) | (have H2_ := (Option.bind_some _ _).symm.trans H; rw [hy233]; with_reducible exact H2_) | (have H2_ := (Option.bind_some _ _).symm.trans H; with_reducible exact H2_) | with_reducible exact H | (rw [hy233]; exact H) | exact H
     have Ny233 := aM_ hy233
     clear hy233
     by_cases c14 : 0 ≤ (ji10)
     ·rw [if_pos c14] at H
      have c14b0 : decide (0 ≤ (ji10)) = true := decide_eq_true c14
      clear c14
      by_cases c15 : (ji10) < ((rd_L3 l0_0 a2).length : Int)
      ·rw [if_pos c15] at H
       have c15b0 : decide ((ji10) < ((rd_L3 l0_0 a2).length : Int)) = true := decide_eq_true c15
       clear c15
       by_cases c16 : a4 = true
       ·subst c16
        have H1 : ((impl_Join.f k y233 ((rd_T43 (rd_L3 l0_0 a2) (ji10)).f1)).bind fun t237 => (some ((rd_T43 (rd_L3 l0_0 a2) (ji10)).f0, t237))) = some (r1, r2) := by rw [if_pos rfl] at H; exact H
        clear H
        have H := H1
        clear H1
        replace H := Option.bind_eq_some_iff.mp H
        obtain ⟨t237, A170, H⟩ := H
        replace H : (some ((rd_T43 (rd_L3 l0_0 a2) (ji10)).f0, t237)) = some (r1, r2) := H
        have A17 := aM_ A170
        clear A170
        simp only [Option.some.injEq, Prod.mk.injEq] at H
        obtain ⟨rfl, rfl⟩ := H
        go_enter Try.func60, Try.ntmps60
        have hcz19_0 : w.cell? ⟨g, 0, none⟩ = some (.slice A0_0 l0_0.length c0_0) := (blk_cell BK227.out 0).trans rfl
        have hfz19_0 := blk_frozen BK227.out 0
        have p228 : 0 ≤ (a2 : Int) := of_decide_eq_true (by first | (with_reducible assumption) | assumption)
        have q228 : a2 < (l0_0.length : Int) := of_decide_eq_true (by first | (with_reducible assumption) | assumption)
        obtain ⟨ad228, A228_0, c228_0, e228, hx228_0, hl228_0, hi228_0⟩ := at_L3 HR0_0.out a2 p228 q228
        cases e228
        replace hx228_0 := cB_ HB.out hx228_0
        have HR228_0 := aM_ hi228_0
        have HC228_0 := aM_ hl228_0
        clear hi228_0 hl228_0
        replace p228 := eq_true p228
        replace q228 := eq_true q228
        have p229 : 0 ≤ (a2 : Int) := of_decide_eq_true (by first | (with_reducible assumption) | assumption)
        have q229 : a2 < (l1.length : Int) := of_decide_eq_true (by first | (with_reducible assumption) | assumption)
        obtain ⟨ad229, e229, hx229_0⟩ := Kd.at_int HR1.out a2 p229 q229
        cases e229
        replace hx229_0 := cB_ HB.out hx229_0
        replace p229 := eq_true p229
        replace q229 := eq_true q229
        go_wp2_with (first | ((with_reducible refine gate_callee (f := 58) rfl ?_); refine gL_ (some 35) Try.func58 #[.slice (some ad229) l1.length c1] ?_; (with_reducible refine (impl_copyInts.calls _ _ l1 t230 _ ?side1 ?side2 A11.out).mono ?_); (case side1 => exact cS_ (Kd.C_below HR1.out HB.out)); (case side2 => exact HC1.out); rintro e w20 ⟨v231, rfl, ho0, hb⟩; refine ⟨_, rfl, ?_⟩; have n0 := aM_ (Kd.R_lower ho0 (below_size (gB_ HB.out))); have n1 := aM_ (blk_below (g := g) (o := .cells #[.slice (some ad228) l0_0.length c0_0] 24 (0, 0)) (by (with_reducible repeat (first | refine bN_ ?_ _ | refine bD_ ?_ | refine bA_ ?_ _)); exact BK227.out) hb); have n2 := aM_ (sT_ HB.out hb); clear BK227; clear HB; have HO232 := n0; have BK227 := n1; have HB := n2; clear n0 n1 n2; (try clear ho0); have p13 : 0 ≤ (a2 : Int) := of_decide_eq_true (by first | (with_reducible assumption) | assumption); have q13 : (a2 : Int) < ((t230.length : Int) : Int) := of_decide_eq_true (by first | (with_reducible assumption) | assumption); obtain ⟨go13, co13, eo13, gb13, gl13, cl13, HG13⟩ := Kd.R_form HO232.out (by omega); (first | cases eo13 | (injection eo13 with ea_ en_ ec_; (first | subst ea_ | (injection ea_ with ea_; subst ea_)); subst ec_; clear en_)); have GB13 := aM_ gb13; have GG13 := aM_ HG13; clear gb13 gl13 HG13; obtain ⟨hx13_0, hf13_0⟩ := Kd.R_celln 0 HO232.out (a2 : Int) p13 q13; replace p13 := eq_true p13; replace q13 := eq_true q13; obtain ⟨hy21_, hz21_⟩ := Kd.R_celln 0 HO232.out (a2 : Int) (of_decide_eq_true (by first | (with_reducible assumption) | assumption)) (of_decide_eq_true (by first | (with_reducible assumption) | assumption)); have HP21 := Kd.R_putg HO232.out (a2 : Int) ji10) | ((with_reducible refine gate_store (t := 3) (p := 39) rfl ?_); refine store_event (t := 3) (p := 39) (v := ?vo_w22) (w1 := (w20.setCell ⟨go13, (a2 : Int).toNat, none⟩ (.int .i64 ji10))) ?hg ?ho ?hn ?hr ?_; (case ho => rfl); (case hg => rfl); (case hn => rfl); (case hr => first | (go_simp; done) | (go_simp; rfl)); intro w22 hw; have hg : w20.grownBy w22 (some go13) := (by rw [hw]; exact HP21.2); have hp_ : Kd.R (Kd.int .i64) 3 w22 w.heap.size (fun _ => True) (.slice (some ⟨go13, 0, none⟩) t230.length co13) y233 := (by rw [hw, Ny233.out]; exact HP21.1); clear HP21; have n0 := aM_ (blk_grown (g := g) (o := .cells #[.slice (some ad228) l0_0.length c0_0] 24 (0, 0)) (by (with_reducible repeat (first | refine bN_ ?_ _ | refine bD_ ?_ | refine bA_ ?_ _)); exact BK227.out) hg (Kd.R_ne HO232.out BK227.out (by decide))); have n1 := aM_ (hp_); have n2 := aM_ ((by rw [hw]; exact below_set (HB.out) GB13.out : Below w.heap.size w w22)); clear BK227; clear HO232; clear HB; have BK227 := n0; have HO232 := n1; have HB := n2; clear n0 n1 n2; clear hg hw hp_; have hcz23_0 : w22.cell? ⟨g, 0, none⟩ = some (.slice (some ad228) l0_0.length c0_0) := (blk_cell BK227.out 0).trans rfl; have hfz23_0 := blk_frozen BK227.out 0; have p234 : 0 ≤ (a2 : Int) := of_decide_eq_true (by first | (with_reducible assumption) | assumption); have q234 : a2 < (l0_0.length : Int) := of_decide_eq_true (by first | (with_reducible assumption) | assumption); obtain ⟨ad234, A234_0, c234_0, e234, hx234_0, hl234_0, hi234_0⟩ := at_L3 HR0_0.out a2 p234 q234; obtain rfl : ad228 = ad234 := (by injection e234); replace hx234_0 := cB_ HB.out hx234_0; have HR234_0 := aM_ hi234_0; have HC234_0 := aM_ hl234_0; clear hi234_0 hl234_0; replace p234 := eq_true p234; replace q234 := eq_true q234; have p235 : 0 ≤ ((ji10) : Int) := of_decide_eq_true (by first | (with_reducible assumption) | assumption); have q235 : (ji10) < ((rd_L3 l0_0 a2).length : Int) := of_decide_eq_true (by first | (with_reducible assumption) | assumption); obtain ⟨ad235, A235_1, c235_1, e235, hx235_0, hx235_1, hl235_1, hi235_1⟩ := at_T43 HR234_0.out (ji10) p235 q235; cases e235; replace hx235_0 := cB_ HB.out hx235_0; replace hx235_1 := cB_ HB.out hx235_1; have HR235_1 := aM_ hi235_1; have HC235_1 := aM_ hl235_1; clear hi235_1 hl235_1; replace p235 := eq_true p235; replace q235 := eq_true q235) | ((with_reducible refine gate_dst (N := 15) rfl ?_); refine bX_ 15 (cs := #[.int .i64 0, .slice none 0 0]) (t := 43) ?_; intro gb236 hg w24 hbox hb; have n0 := aM_ (bR_ HO232.out hb); have n1 := aM_ (blk_below (g := g) (o := .cells #[.slice (some ad228) l0_0.length c0_0] 24 (0, 0)) (by (with_reducible repeat (first | refine bN_ ?_ _ | refine bD_ ?_ | refine bA_ ?_ _)); exact BK227.out) hb); have n2 := aM_ (sT_ HB.out hb); have n3 := aM_ (hbox); have n4 := aM_ (sZ_ hg HB.out); have n5 := aM_ (sZ_ hg HB.out); have n6 := aM_ ((by rw [hg]; exact Nat.ne_of_lt (blk_lt (g := g) (o := .cells #[.slice (some ad228) l0_0.length c0_0] 24 (0, 0)) (by (with_reducible repeat (first | refine bN_ ?_ _ | refine bD_ ?_ | refine bA_ ?_ _)); exact BK227.out)) : g ≠ gb236)); have n7 := aM_ ((by rw [hg]; exact Nat.ne_of_gt (blk_lt (g := g) (o := .cells #[.slice (some ad228) l0_0.length c0_0] 24 (0, 0)) (by (with_reducible repeat (first | refine bN_ ?_ _ | refine bD_ ?_ | refine bA_ ?_ _)); exact BK227.out)) : gb236 ≠ g)); clear HO232; clear BK227; clear HB; have HO232 := n0; have BK227 := n1; have HB := n2; have BK236 := n3; have GW236 := n4; have GE236 := n5; have NB227_236 := n6; have NB236_227 := n7; clear n0 n1 n2 n3 n4 n5 n6 n7; clear hb hbox hg; have hnb25 := NB236_227.out; have hnc25 := NB227_236.out; obtain ⟨hcz26_0, hcz26_1, hfz26_0, hfz26_1⟩ := bR2_ BK236.out) | ((with_reducible refine gate_callee (f := 94) rfl ?_); refine goesL_ (some 54) rfl rfl Try.func94 (by kernel_rfl) rfl #[.slice (some ⟨go13, 0, none⟩) y233.length co13, .slice A235_1 ((rd_T43 (rd_L3 l0_0 a2) (ji10)).f1).length c235_1] rfl (by (try simp only [List.map_toArray, List.map_cons, List.map_nil]); first | done | (rw [show y233.length = t230.length from (Kd.R_reads' HO232.out).1.symm] <;> rfl) | (simp only [hji10]; rfl) | rfl | (simp only [List.length_drop, List.length_take]; rfl)) ?_; (with_reducible refine (impl_Join.calls k _ _ y233 _ _ ((rd_T43 (rd_L3 l0_0 a2) (ji10)).f1) t237 _ ?side1 ?side2 ?side3 ?side4 A17.out).mono ?_); (case side1 => refine (Kd.R_reads' (e := 3) (base := w.heap.size) (ok := fun k_ => True) (n := t230.length) (c := co13) ?_).2.2; exact (by (with_reducible repeat (first | apply rA_ | apply rN_ | apply rD_)); exact (Kd.R_mono (Kd.R_far (p := ⟨gb236, 1, none⟩) (Kd.R_far (p := ⟨gb236, 0, none⟩) (Kd.R_types HO232.out BK236.out (by decide)) (fun _ hk => hk.2) (.int .i64 ((rd_T43 (rd_L3 l0_0 a2) (ji10)).f0))) (fun _ hk => hk.2) (.slice A235_1 ((rd_T43 (rd_L3 l0_0 a2) (ji10)).f1).length c235_1)) (fun _ h_ => h_.1)))); (case side2 => rw [show y233.length = t230.length from (Kd.R_reads' HO232.out).1.symm]; exact (Kd.R_reads' HO232.out).2.1); (case side3 => exact Kd.C_below HR235_1.out (gB_ HB.out)); (case side4 => exact HC235_1.out); rintro e w27 ⟨v238, rfl, ho0, hb⟩; refine ⟨_, rfl, ?_⟩; have n0 := aM_ (Kd.R_elder' (by (with_reducible repeat (first | apply rA_ | apply rN_ | apply rD_)); exact (Kd.R_mono (Kd.R_far (p := ⟨gb236, 1, none⟩) (Kd.R_far (p := ⟨gb236, 0, none⟩) (Kd.R_types HO232.out BK236.out (by decide)) (fun _ hk => hk.2) (.int .i64 ((rd_T43 (rd_L3 l0_0 a2) (ji10)).f0))) (fun _ hk => hk.2) (.slice A235_1 ((rd_T43 (rd_L3 l0_0 a2) (ji10)).f1).length c235_1)) (fun _ h_ => h_.1))) (Kd.R_base ho0) hb); have n1 := aM_ (Kd.R_lower (Kd.R_new' ho0 (Kd.R_lt (by (with_reducible repeat (first | apply rA_ | apply rN_ | apply rD_)); exact (Kd.R_mono (Kd.R_far (p := ⟨gb236, 1, none⟩) (Kd.R_far (p := ⟨gb236, 0, none⟩) (Kd.R_types HO232.out BK236.out (by decide)) (fun _ hk => hk.2) (.int .i64 ((rd_T43 (rd_L3 l0_0 a2) (ji10)).f0))) (fun _ hk => hk.2) (.slice A235_1 ((rd_T43 (rd_L3 l0_0 a2) (ji10)).f1).length c235_1)) (fun _ h_ => h_.1))))) (below_size (gB_ HB.out))); have n2 := aM_ (blk_below (g := g) (o := .cells #[.slice (some ad228) l0_0.length c0_0] 24 (0, 0)) (rWf_ BK227.out) hb); have n3 := aM_ (blk_below (g := gb236) (o := .cells #[.int .i64 ((rd_T43 (rd_L3 l0_0 a2) (ji10)).f0), .slice A235_1 ((rd_T43 (rd_L3 l0_0 a2) (ji10)).f1).length c235_1] 43 (0, 0)) (by (with_reducible repeat (first | refine bN_ ?_ _ | refine bD_ ?_ | refine bA_ ?_ _)); refine blk_put (cs := #[.int .i64 ((rd_T43 (rd_L3 l0_0 a2) (ji10)).f0), .slice none 0 0]) ?_ 1 _ rfl; refine blk_put (cs := #[.int .i64 0, .slice none 0 0]) ?_ 0 _ rfl; exact rW_ BK236.out) hb); have n4 := aM_ (sT_ HB.out hb); clear HO232; clear BK227; clear BK236; clear HB; have HO232 := n0; have HO239 := n1; have BK227 := n2; have BK236 := n3; have HB := n4; clear n0 n1 n2 n3 n4; (try clear ho0); obtain ⟨hcz28_0, hcz28_1, hfz28_0, hfz28_1⟩ := bR2_ BK236.out))
        go_ret2
        exact ⟨_, by first | rfl | (simp [errW_none, errW_some] <;> rfl) | (simp only [← hji8, ← hji10]; first | rfl | (simp [errW_none, errW_some] <;> rfl)) | (simp [*, errW_none, errW_some] <;> rfl), by (with_reducible repeat (first | apply rA_ | apply rN_ | apply rD_)); exact Kd.R_mono HO239.out (fun _ hk => trivial), gB_ HB.out⟩
       ·replace c16 := Bool.eq_false_iff.mpr c16
        subst c16
        have H1 : (some ((rd_T43 (rd_L3 l0_0 a2) (ji10)).f0, y233)) = some (r1, r2) := by rw [if_neg (show ¬ (false = true) by decide)] at H; exact H
        clear H
        have H := H1
        clear H1
        simp only [Option.some.injEq, Prod.mk.injEq] at H
        obtain ⟨rfl, rfl⟩ := H
        go_enter Try.func60, Try.ntmps60
        have hcz30_0 : w.cell? ⟨g, 0, none⟩ = some (.slice A0_0 l0_0.length c0_0) := (blk_cell BK227.out 0).trans rfl
        have hfz30_0 := blk_frozen BK227.out 0
        have p228 : 0 ≤ (a2 : Int) := of_decide_eq_true (by first | (with_reducible assumption) | assumption)
        have q228 : a2 < (l0_0.length : Int) := of_decide_eq_true (by first | (with_reducible assumption) | assumption)
        obtain ⟨ad228, A228_0, c228_0, e228, hx228_0, hl228_0, hi228_0⟩ := at_L3 HR0_0.out a2 p228 q228
        cases e228
        replace hx228_0 := cB_ HB.out hx228_0
        have HR228_0 := aM_ hi228_0
        have HC228_0 := aM_ hl228_0
        clear hi228_0 hl228_0
        replace p228 := eq_true p228
        replace q228 := eq_true q228
        have p229 : 0 ≤ (a2 : Int) := of_decide_eq_true (by first | (with_reducible assumption) | assumption)
        have q229 : a2 < (l1.length : Int) := of_decide_eq_true (by first | (with_reducible assumption) | assumption)
        obtain ⟨ad229, e229, hx229_0⟩ := Kd.at_int HR1.out a2 p229 q229
        cases e229
        replace hx229_0 := cB_ HB.out hx229_0
        replace p229 := eq_true p229
        replace q229 := eq_true q229
        go_wp2_with (first | ((with_reducible refine gate_callee (f := 58) rfl ?_); refine gL_ (some 35) Try.func58 #[.slice (some ad229) l1.length c1] ?_; (with_reducible refine (impl_copyInts.calls _ _ l1 t230 _ ?side1 ?side2 A11.out).mono ?_); (case side1 => exact cS_ (Kd.C_below HR1.out HB.out)); (case side2 => exact HC1.out); rintro e w31 ⟨v231, rfl, ho0, hb⟩; refine ⟨_, rfl, ?_⟩; have n0 := aM_ (Kd.R_lower ho0 (below_size (gB_ HB.out))); have n1 := aM_ (blk_below (g := g) (o := .cells #[.slice (some ad228) l0_0.length c0_0] 24 (0, 0)) (by (with_reducible repeat (first | refine bN_ ?_ _ | refine bD_ ?_ | refine bA_ ?_ _)); exact BK227.out) hb); have n2 := aM_ (sT_ HB.out hb); clear BK227; clear HB; have HO232 := n0; have BK227 := n1; have HB := n2; clear n0 n1 n2; (try clear ho0); have p13 : 0 ≤ (a2 : Int) := of_decide_eq_true (by first | (with_reducible assumption) | assumption); have q13 : (a2 : Int) < ((t230.length : Int) : Int) := of_decide_eq_true (by first | (with_reducible assumption) | assumption); obtain ⟨go13, co13, eo13, gb13, gl13, cl13, HG13⟩ := Kd.R_form HO232.out (by omega); (first | cases eo13 | (injection eo13 with ea_ en_ ec_; (first | subst ea_ | (injection ea_ with ea_; subst ea_)); subst ec_; clear en_)); have GB13 := aM_ gb13; have GG13 := aM_ HG13; clear gb13 gl13 HG13; obtain ⟨hx13_0, hf13_0⟩ := Kd.R_celln 0 HO232.out (a2 : Int) p13 q13; replace p13 := eq_true p13; replace q13 := eq_true q13; obtain ⟨hy32_, hz32_⟩ := Kd.R_celln 0 HO232.out (a2 : Int) (of_decide_eq_true (by first | (with_reducible assumption) | assumption)) (of_decide_eq_true (by first | (with_reducible assumption) | assumption)); have HP32 := Kd.R_putg HO232.out (a2 : Int) ji10) | ((with_reducible refine gate_store (t := 3) (p := 39) rfl ?_); refine store_event (t := 3) (p := 39) (v := ?vo_w33) (w1 := (w31.setCell ⟨go13, (a2 : Int).toNat, none⟩ (.int .i64 ji10))) ?hg ?ho ?hn ?hr ?_; (case ho => rfl); (case hg => rfl); (case hn => rfl); (case hr => first | (go_simp; done) | (go_simp; rfl)); intro w33 hw; have hg : w31.grownBy w33 (some go13) := (by rw [hw]; exact HP32.2); have hp_ : Kd.R (Kd.int .i64) 3 w33 w.heap.size (fun _ => True) (.slice (some ⟨go13, 0, none⟩) t230.length co13) y233 := (by rw [hw, Ny233.out]; exact HP32.1); clear HP32; have n0 := aM_ (blk_grown (g := g) (o := .cells #[.slice (some ad228) l0_0.length c0_0] 24 (0, 0)) (by (with_reducible repeat (first | refine bN_ ?_ _ | refine bD_ ?_ | refine bA_ ?_ _)); exact BK227.out) hg (Kd.R_ne HO232.out BK227.out (by decide))); have n1 := aM_ (hp_); have n2 := aM_ ((by rw [hw]; exact below_set (HB.out) GB13.out : Below w.heap.size w w33)); clear BK227; clear HO232; clear HB; have BK227 := n0; have HO232 := n1; have HB := n2; clear n0 n1 n2; clear hg hw hp_; have hcz34_0 : w33.cell? ⟨g, 0, none⟩ = some (.slice (some ad228) l0_0.length c0_0) := (blk_cell BK227.out 0).trans rfl; have hfz34_0 := blk_frozen BK227.out 0; have p234 : 0 ≤ (a2 : Int) := of_decide_eq_true (by first | (with_reducible assumption) | assumption); have q234 : a2 < (l0_0.length : Int) := of_decide_eq_true (by first | (with_reducible assumption) | assumption); obtain ⟨ad234, A234_0, c234_0, e234, hx234_0, hl234_0, hi234_0⟩ := at_L3 HR0_0.out a2 p234 q234; obtain rfl : ad228 = ad234 := (by injection e234); replace hx234_0 := cB_ HB.out hx234_0; have HR234_0 := aM_ hi234_0; have HC234_0 := aM_ hl234_0; clear hi234_0 hl234_0; replace p234 := eq_true p234; replace q234 := eq_true q234; have p235 : 0 ≤ ((ji10) : Int) := of_decide_eq_true (by first | (with_reducible assumption) | assumption); have q235 : (ji10) < ((rd_L3 l0_0 a2).length : Int) := of_decide_eq_true (by first | (with_reducible assumption) | assumption); obtain ⟨ad235, A235_1, c235_1, e235, hx235_0, hx235_1, hl235_1, hi235_1⟩ := at_T43 HR234_0.out (ji10) p235 q235; cases e235; replace hx235_0 := cB_ HB.out hx235_0; replace hx235_1 := cB_ HB.out hx235_1; have HR235_1 := aM_ hi235_1; have HC235_1 := aM_ hl235_1; clear hi235_1 hl235_1; replace p235 := eq_true p235; replace q235 := eq_true q235) | ((with_reducible refine gate_dst (N := 15) rfl ?_); refine bX_ 15 (cs := #[.int .i64 0, .slice none 0 0]) (t := 43) ?_; intro gb236 hg w35 hbox hb; have n0 := aM_ (bR_ HO232.out hb); have n1 := aM_ (blk_below (g := g) (o := .cells #[.slice (some ad228) l0_0.length c0_0] 24 (0, 0)) (by (with_reducible repeat (first | refine bN_ ?_ _ | refine bD_ ?_ | refine bA_ ?_ _)); exact BK227.out) hb); have n2 := aM_ (sT_ HB.out hb); have n3 := aM_ (hbox); have n4 := aM_ (sZ_ hg HB.out); have n5 := aM_ (sZ_ hg HB.out); have n6 := aM_ ((by rw [hg]; exact Nat.ne_of_lt (blk_lt (g := g) (o := .cells #[.slice (some ad228) l0_0.length c0_0] 24 (0, 0)) (by (with_reducible repeat (first | refine bN_ ?_ _ | refine bD_ ?_ | refine bA_ ?_ _)); exact BK227.out)) : g ≠ gb236)); have n7 := aM_ ((by rw [hg]; exact Nat.ne_of_gt (blk_lt (g := g) (o := .cells #[.slice (some ad228) l0_0.length c0_0] 24 (0, 0)) (by (with_reducible repeat (first | refine bN_ ?_ _ | refine bD_ ?_ | refine bA_ ?_ _)); exact BK227.out)) : gb236 ≠ g)); clear HO232; clear BK227; clear HB; have HO232 := n0; have BK227 := n1; have HB := n2; have BK236 := n3; have GW236 := n4; have GE236 := n5; have NB227_236 := n6; have NB236_227 := n7; clear n0 n1 n2 n3 n4 n5 n6 n7; clear hb hbox hg; have hnb36 := NB236_227.out; have hnc36 := NB227_236.out; obtain ⟨hcz37_0, hcz37_1, hfz37_0, hfz37_1⟩ := bR2_ BK236.out))
        go_ret2
        exact ⟨_, by first | rfl | (simp [errW_none, errW_some] <;> rfl) | (simp only [← hji8, ← hji10]; first | rfl | (simp [errW_none, errW_some] <;> rfl)) | (simp [*, errW_none, errW_some] <;> rfl), by (with_reducible repeat (first | apply rA_ | apply rN_ | apply rD_)); exact Kd.R_mono (Kd.R_far (p := ⟨gb236, 1, none⟩) (Kd.R_far (p := ⟨gb236, 0, none⟩) (Kd.R_types HO232.out BK236.out (by decide)) (fun _ hk => hk.2) (.int .i64 ((rd_T43 (rd_L3 l0_0 a2) (ji10)).f0))) (fun _ hk => hk.2) (.slice A235_1 ((rd_T43 (rd_L3 l0_0 a2) (ji10)).f1).length c235_1)) (fun _ hk => trivial), gB_ HB.out⟩
      ·rw [if_neg c15] at H
       exact absurd H (by simp)
     ·rw [if_neg c14] at H
      exact absurd H (by simp)
    ·rw [if_neg c12] at H
     exact absurd H (by simp)
   ·rw [if_neg c9] at H
    exact absurd H (by simp)
  ·rw [if_neg c7] at H
   exact absurd H (by simp)
 ·rw [if_neg c6] at H
  exact absurd H (by simp)
def impl_Swap.j0 : Nat → List Int → Int → Int → Bool → List (List (S43)) → Option ((List (List (S43))) × List Int × Int)
  | 0, _, _, _, _, _ => none
  | k + 1, x1, x2, x3, x35, x246000 => if x35 = true then ((impl_copyInts.f x1).bind fun t250 => (some (x246000, t250, 0))) else ((impl_Memory_load.f k x246000 x1 x2 0 true).bind fun bt253 => ((impl_Memory_store.f x246000 bt253.2 x2 x3 true).bind fun bt257 => (some (bt257.1, bt257.2, bt253.1))))
def impl_Swap.f (k : Nat) (l0_0 : List (List (S43))) (l1 : List Int) (a2 : Int) (a3 : Int) : Option ((List (List (S43))) × List Int × Int) := (impl_copyMemory.f k l0_0).bind fun t242 => ((impl_MemoryOk.f k l0_0).bind fun t246 => (if t246 = true then ((impl_ViewOk.f k l0_0 l1).bind fun t247 => (if t247 = true then ((impl_isCell.f a2).bind fun t248 => (if t248 = true then ((impl_Memory_hasRoom.f l0_0 a2).bind fun t249 => (impl_Swap.j0 k l1 a2 a3 (!t249) t242)) else (impl_Swap.j0 k l1 a2 a3 true t242))) else (impl_Swap.j0 k l1 a2 a3 true t242))) else (impl_Swap.j0 k l1 a2 a3 true t242)))
set_option maxHeartbeats 8000000 in
set_option maxRecDepth 100000 in
theorem impl_Swap.calls (k : Nat) (A0_0 : Option Addr) (c0_0 : Nat) (l0_0 : List (List (S43))) (A1 : Option Addr) (c1 : Nat) (l1 : List Int) (a2 : Int) (a3 : Int) (r1 : List (List (S43))) (r2 : List Int) (r3 : Int) (w : World) (hr0_0 : Kd.C (Kd.slice 43 k43) w A0_0 l0_0.length l0_0) (hc0_0 : l0_0.length ≤ c0_0) (hr1 : Kd.C (Kd.int .i64) w A1 l1.length l1) (hc1 : l1.length ≤ c1) (h : impl_Swap.f k l0_0 l1 a2 a3 = some (r1, r2, r3)) :
  Calls Try.prog 45 #[.agg #[.slice A0_0 l0_0.length c0_0], .slice A1 l1.length c1, .int .i64 a2, .int .i64 a3] w fun e w' => ∃ v0_ v1_ : Value, e = .returned (.tuple #[.agg #[v0_], v1_, .int .i64 r3]) ∧ Kd.S (sslice 43 k43) 44 w' w.heap.size (fun k_ => some k_ ≠ (v1_ : Value).ownBlock) v0_ r1 ∧ Kd.R (Kd.int .i64) 3 w' w.heap.size (fun _ => True) v1_ r2 ∧ Below w.heap.size w w' := by
 have hu24 := Try.underlying24
 have HR0_0 := aM_ hr0_0
 have HC0_0 := aM_ hc0_0
 clear hr0_0 hc0_0
 have HR1 := aM_ hr1
 have HC1 := aM_ hc1
 clear hr1 hc1
 have HB := aM_ (Below.refl w.heap.size w)
 have H : ((impl_copyMemory.f k l0_0).bind fun t242 => ((impl_MemoryOk.f k l0_0).bind fun t246 => (if t246 = true then ((impl_ViewOk.f k l0_0 l1).bind fun t247 => (if t247 = true then ((impl_isCell.f a2).bind fun t248 => (if t248 = true then ((impl_Memory_hasRoom.f l0_0 a2).bind fun t249 => (impl_Swap.j0 k l1 a2 a3 (!t249) t242)) else (impl_Swap.j0 k l1 a2 a3 true t242))) else (impl_Swap.j0 k l1 a2 a3 true t242))) else (impl_Swap.j0 k l1 a2 a3 true t242)))) = some (r1, r2, r3) := h
 clear h
 replace H := Option.bind_eq_some_iff.mp H
 obtain ⟨t242, A50, H⟩ := H
 replace H : ((impl_MemoryOk.f k l0_0).bind fun t246 => (if t246 = true then ((impl_ViewOk.f k l0_0 l1).bind fun t247 => (if t247 = true then ((impl_isCell.f a2).bind fun t248 => (if t248 = true then ((impl_Memory_hasRoom.f l0_0 a2).bind fun t249 => (impl_Swap.j0 k l1 a2 a3 (!t249) t242)) else (impl_Swap.j0 k l1 a2 a3 true t242))) else (impl_Swap.j0 k l1 a2 a3 true t242))) else (impl_Swap.j0 k l1 a2 a3 true t242))) = some (r1, r2, r3) := H
 have A5 := aM_ A50
 clear A50
 have HC6 := aM_ H
 clear H
 go_enter Try.func45, Try.ntmps45
 go_upto_region 2 with (first | ((with_reducible refine gate_dst (N := 4) rfl ?_); refine bX_ 4 (cs := #[.slice A0_0 l0_0.length c0_0]) (t := 24) ?_; intro gb240 hg w7 hbox hb; have n0 := aM_ (sT_ HB.out hb); have n1 := aM_ (hbox); have n2 := aM_ (sZ_ hg HB.out); have n3 := aM_ (sZ_ hg HB.out); clear HB; have HB := n0; have BK240 := n1; have GW240 := n2; have GE240 := n3; clear n0 n1 n2 n3; clear hb hbox hg) | ((with_reducible refine gate_dst (N := 8) rfl ?_); refine bX_ 8 (cs := #[.slice none 0 0]) (t := 24) ?_; intro gb241 hg w8 hbox hb; have n0 := aM_ (nB_ BK240.out hb); have n1 := aM_ (sT_ HB.out hb); have n2 := aM_ (hbox); have n3 := aM_ (sZ_ hg HB.out); have n4 := aM_ (sZ_ hg HB.out); have n5 := aM_ (nL_ hg BK240.out); have n6 := aM_ (nG_ hg BK240.out); clear BK240; clear HB; have BK240 := n0; have HB := n1; have BK241 := n2; have GW241 := n3; have GE241 := n4; have NB240_241 := n5; have NB241_240 := n6; clear n0 n1 n2 n3 n4 n5 n6; clear hb hbox hg; have hnb9 := NB240_241.out; have hnc9 := NB241_240.out; have hcz10_0 : w8.cell? ⟨gb240, 0, none⟩ = some (.slice A0_0 l0_0.length c0_0) := (blk_cell BK240.out 0).trans rfl; have hfz10_0 := blk_frozen BK240.out 0) | ((with_reducible refine gate_callee (f := 55) rfl ?_); refine gL_ (some 16) Try.func55 #[.agg #[.slice A0_0 l0_0.length c0_0]] ?_; (with_reducible refine (impl_copyMemory.calls k _ _ l0_0 t242 _ ?side1 ?side2 A5.out).mono ?_); (case side1 => exact cS_ (Kd.C_below HR0_0.out HB.out)); (case side2 => exact HC0_0.out); rintro e w11 ⟨v243, rfl, ho0, hb⟩; refine ⟨_, rfl, ?_⟩; have n0 := aM_ (Kd.S_lower ho0 (below_size (gB_ HB.out))); have n1 := aM_ (nB_ BK240.out hb); have n2 := aM_ (nB_ BK241.out hb); have n3 := aM_ (sT_ HB.out hb); clear BK240; clear BK241; clear HB; have HO244 := n0; have BK240 := n1; have BK241 := n2; have HB := n3; clear n0 n1 n2 n3; (try clear ho0)) | ((with_reducible refine gate_dst (N := 11) rfl ?_); refine bX_ 11 (cs := #[.slice none 0 0]) (t := 24) ?_; intro gb245 hg w12 hbox hb; have n0 := aM_ (bS_ HO244.out hb); have n1 := aM_ (nB_ BK240.out hb); have n2 := aM_ (nB_ BK241.out hb); have n3 := aM_ (sT_ HB.out hb); have n4 := aM_ (hbox); have n5 := aM_ (sZ_ hg HB.out); have n6 := aM_ (sZ_ hg HB.out); have n7 := aM_ (nL_ hg BK240.out); have n8 := aM_ (nG_ hg BK240.out); have n9 := aM_ (nL_ hg BK241.out); have n10 := aM_ (nG_ hg BK241.out); clear HO244; clear BK240; clear BK241; clear HB; have HO244 := n0; have BK240 := n1; have BK241 := n2; have HB := n3; have BK245 := n4; have GW245 := n5; have GE245 := n6; have NB240_245 := n7; have NB245_240 := n8; have NB241_245 := n9; have NB245_241 := n10; clear n0 n1 n2 n3 n4 n5 n6 n7 n8 n9 n10; clear hb hbox hg; obtain ⟨Ao13, co13, eo13⟩ := Kd.S_slice HO244.out; subst eo13; have hnb14 := NB245_240.out; have hnc14 := NB240_245.out; have hnb15 := NB245_241.out; have hnc15 := NB241_245.out; have hcz16_0 : w12.cell? ⟨gb245, 0, none⟩ = some (.slice none 0 0) := (blk_cell BK245.out 0).trans rfl; have hfz16_0 := blk_frozen BK245.out 0))
 (try simp only [Act.put, List.setIfInBounds_toArray, List.set_cons_zero, List.set_cons_succ])
 go_cut [35] (fun v35 wc => ∃ (kq : Nat) (x35_5 : Bool), v35 = .bool x35_5 ∧ Aside0 (impl_Swap.j0 kq l1 a2 a3 x35_5 t242 = some (r1, r2, r3)) ∧ Aside0 (kq ≤ k) ∧ Aside0 (Kd.S (sslice 43 k43) 44 wc w.heap.size (fun _ => True) (.slice Ao13 t242.length co13) t242) ∧ Aside0 (wc.heap[gb240]? = some (.cells #[(.slice A0_0 l0_0.length c0_0)] 24 (0, 0))) ∧ Aside0 (wc.heap[gb241]? = some (.cells #[(.slice none 0 0)] 24 (0, 0))) ∧ Aside0 (wc.heap[gb245]? = some (.cells #[(.slice Ao13 t242.length co13)] 24 (0, 0))) ∧ Aside0 (Below w.heap.size w wc))
 case first =>
  have H := HC6.out
  clear HC6
  replace H := Option.bind_eq_some_iff.mp H
  obtain ⟨t246, A170, H⟩ := H
  replace H : (if t246 = true then ((impl_ViewOk.f k l0_0 l1).bind fun t247 => (if t247 = true then ((impl_isCell.f a2).bind fun t248 => (if t248 = true then ((impl_Memory_hasRoom.f l0_0 a2).bind fun t249 => (impl_Swap.j0 k l1 a2 a3 (!t249) t242)) else (impl_Swap.j0 k l1 a2 a3 true t242))) else (impl_Swap.j0 k l1 a2 a3 true t242))) else (impl_Swap.j0 k l1 a2 a3 true t242)) = some (r1, r2, r3) := H
  have A17 := aM_ A170
  clear A170
  by_cases c18 : t246 = true
  ·subst c18
   have H1 : ((impl_ViewOk.f k l0_0 l1).bind fun t247 => (if t247 = true then ((impl_isCell.f a2).bind fun t248 => (if t248 = true then ((impl_Memory_hasRoom.f l0_0 a2).bind fun t249 => (impl_Swap.j0 k l1 a2 a3 (!t249) t242)) else (impl_Swap.j0 k l1 a2 a3 true t242))) else (impl_Swap.j0 k l1 a2 a3 true t242))) = some (r1, r2, r3) := by rw [if_pos rfl] at H; exact H
   clear H
   have H := H1
   clear H1
   replace H := Option.bind_eq_some_iff.mp H
   obtain ⟨t247, A190, H⟩ := H
   replace H : (if t247 = true then ((impl_isCell.f a2).bind fun t248 => (if t248 = true then ((impl_Memory_hasRoom.f l0_0 a2).bind fun t249 => (impl_Swap.j0 k l1 a2 a3 (!t249) t242)) else (impl_Swap.j0 k l1 a2 a3 true t242))) else (impl_Swap.j0 k l1 a2 a3 true t242)) = some (r1, r2, r3) := H
   have A19 := aM_ A190
   clear A190
   by_cases c20 : t247 = true
   ·subst c20
    have H1 : ((impl_isCell.f a2).bind fun t248 => (if t248 = true then ((impl_Memory_hasRoom.f l0_0 a2).bind fun t249 => (impl_Swap.j0 k l1 a2 a3 (!t249) t242)) else (impl_Swap.j0 k l1 a2 a3 true t242))) = some (r1, r2, r3) := by rw [if_pos rfl] at H; exact H
    clear H
    have H := H1
    clear H1
    replace H := Option.bind_eq_some_iff.mp H
    obtain ⟨t248, A210, H⟩ := H
    replace H : (if t248 = true then ((impl_Memory_hasRoom.f l0_0 a2).bind fun t249 => (impl_Swap.j0 k l1 a2 a3 (!t249) t242)) else (impl_Swap.j0 k l1 a2 a3 true t242)) = some (r1, r2, r3) := H
    have A21 := aM_ A210
    clear A210
    by_cases c22 : t248 = true
    ·subst c22
     have H1 : ((impl_Memory_hasRoom.f l0_0 a2).bind fun t249 => (impl_Swap.j0 k l1 a2 a3 (!t249) t242)) = some (r1, r2, r3) := by rw [if_pos rfl] at H; exact H
     clear H
     have H := H1
     clear H1
     replace H := Option.bind_eq_some_iff.mp H
     obtain ⟨t249, A230, H⟩ := H
     replace H : (impl_Swap.j0 k l1 a2 a3 (!t249) t242) = some (r1, r2, r3) := H
     have A23 := aM_ A230
     clear A230
     have H' := aM_ H
     clear H
     have hnb24 := NB240_241.out
     have hnc24 := NB241_240.out
     have hnb25 := NB240_245.out
     have hnc25 := NB245_240.out
     have hcz26_0 : w12.cell? ⟨gb240, 0, none⟩ = some (.slice A0_0 l0_0.length c0_0) := (blk_cell BK240.out 0).trans rfl
     have hfz26_0 := blk_frozen BK240.out 0
     go_wp2_with (first | ((with_reducible refine gate_callee (f := 26) rfl ?_); refine gL_ (some 18) Try.func26 #[.agg #[.slice A0_0 l0_0.length c0_0]] ?_; (with_reducible refine (impl_MemoryOk.calls k _ _ l0_0 true _ ?side1 ?side2 A17.out).mono ?_); (case side1 => exact Kd.C_below HR0_0.out (gB_ HB.out)); (case side2 => exact HC0_0.out); rintro e w27 ⟨rfl, hb⟩; refine ⟨_, rfl, ?_⟩; have n0 := aM_ (Kd.S_below (by (with_reducible repeat (first | apply Kd.S_alloc | apply Kd.S_drewN | apply Kd.S_drew)); exact (Kd.S_mono (Kd.S_far (p := ⟨gb245, 0, none⟩) (Kd.S_types HO244.out BK245.out (by decide)) (fun _ hk => hk.2) (.slice Ao13 t242.length co13)) (fun _ h_ => h_.1))) hb); have n1 := aM_ (nBf_ BK240.out hb); have n2 := aM_ (nBf_ BK241.out hb); have n3 := aM_ (blk_below (g := gb245) (o := .cells #[.slice Ao13 t242.length co13] 24 (0, 0)) (by (with_reducible repeat (first | refine bN_ ?_ _ | refine bD_ ?_ | refine bA_ ?_ _)); refine blk_put (cs := #[.slice none 0 0]) ?_ 0 _ rfl; exact rW_ BK245.out) hb); have n4 := aM_ (sT_ HB.out hb); clear HO244; clear BK240; clear BK241; clear BK245; clear HB; have HO244 := n0; have BK240 := n1; have BK241 := n2; have BK245 := n3; have HB := n4; clear n0 n1 n2 n3 n4; have hcz28_0 : w27.cell? ⟨gb240, 0, none⟩ = some (.slice A0_0 l0_0.length c0_0) := (blk_cell BK240.out 0).trans rfl; have hfz28_0 := blk_frozen BK240.out 0) | (go_at_call 28; (with_reducible refine (impl_ViewOk.calls k _ _ l0_0 _ _ l1 true _ ?side1 ?side2 ?side3 ?side4 A19.out).mono ?_); (case side1 => exact cS_ (Kd.C_below HR0_0.out HB.out)); (case side2 => exact HC0_0.out); (case side3 => exact cS_ (Kd.C_below HR1.out HB.out)); (case side4 => exact HC1.out); rintro e w29 ⟨rfl, hb⟩; have n0 := aM_ (bS_ HO244.out hb); have n1 := aM_ (nB_ BK240.out hb); have n2 := aM_ (nB_ BK241.out hb); have n3 := aM_ (nB_ BK245.out hb); have n4 := aM_ (sT_ HB.out hb); clear HO244; clear BK240; clear BK241; clear BK245; clear HB; have HO244 := n0; have BK240 := n1; have BK241 := n2; have BK245 := n3; have HB := n4; clear n0 n1 n2 n3 n4) | (go_at_call 56; (with_reducible refine (impl_isCell.calls a2 true _ A21.out).mono ?_); rintro e w' ⟨rfl, ⟨nd, rfl⟩⟩) | (go_at_call 57; (with_reducible refine (impl_Memory_hasRoom.calls gb240 A0_0 c0_0 l0_0 a2 t249 _ ?sideK ?side1 ?side2 A23.out).mono ?_); (case sideK => exact (by (with_reducible repeat (first | refine bN_ ?_ _ | refine bD_ ?_ | refine bA_ ?_ _)); exact BK240.out)); (case side1 => exact cS_ (Kd.C_below HR0_0.out (gB_ HB.out))); (case side2 => exact HC0_0.out); rintro e w30 ⟨rfl, hb⟩; have n0 := aM_ (bS_ HO244.out hb); have n1 := aM_ (nB_ BK240.out hb); have n2 := aM_ (nB_ BK241.out hb); have n3 := aM_ (nB_ BK245.out hb); have n4 := aM_ (sT_ HB.out hb); clear HO244; clear BK240; clear BK241; clear BK245; clear HB; have HO244 := n0; have BK240 := n1; have BK241 := n2; have BK245 := n3; have HB := n4; clear n0 n1 n2 n3 n4))
     go_meet
     case rel => exact ⟨_, (!t249), (by first | rfl | (simp; done) | (simp [*]; done)), H', ⟨by first | omega | exact Nat.le_refl _⟩, ⟨by (with_reducible repeat (first | apply Kd.S_alloc | apply Kd.S_drewN | apply Kd.S_drew)); exact HO244.out⟩, ⟨rW_ BK240.out⟩, ⟨rW_ BK241.out⟩, ⟨rW_ BK245.out⟩, ⟨gW_ HB.out⟩⟩
    ·replace c22 := Bool.eq_false_iff.mpr c22
     subst c22
     have H1 : (impl_Swap.j0 k l1 a2 a3 true t242) = some (r1, r2, r3) := by rw [if_neg (show ¬ (false = true) by decide)] at H; exact H
     clear H
     have H := H1
     clear H1
     have H' := aM_ H
     clear H
     have hnb31 := NB240_241.out
     have hnc31 := NB241_240.out
     have hnb32 := NB240_245.out
     have hnc32 := NB245_240.out
     have hcz33_0 : w12.cell? ⟨gb240, 0, none⟩ = some (.slice A0_0 l0_0.length c0_0) := (blk_cell BK240.out 0).trans rfl
     have hfz33_0 := blk_frozen BK240.out 0
     go_wp2_with (first | ((with_reducible refine gate_callee (f := 26) rfl ?_); refine gL_ (some 18) Try.func26 #[.agg #[.slice A0_0 l0_0.length c0_0]] ?_; (with_reducible refine (impl_MemoryOk.calls k _ _ l0_0 true _ ?side1 ?side2 A17.out).mono ?_); (case side1 => exact Kd.C_below HR0_0.out (gB_ HB.out)); (case side2 => exact HC0_0.out); rintro e w34 ⟨rfl, hb⟩; refine ⟨_, rfl, ?_⟩; have n0 := aM_ (Kd.S_below (by (with_reducible repeat (first | apply Kd.S_alloc | apply Kd.S_drewN | apply Kd.S_drew)); exact (Kd.S_mono (Kd.S_far (p := ⟨gb245, 0, none⟩) (Kd.S_types HO244.out BK245.out (by decide)) (fun _ hk => hk.2) (.slice Ao13 t242.length co13)) (fun _ h_ => h_.1))) hb); have n1 := aM_ (nBf_ BK240.out hb); have n2 := aM_ (nBf_ BK241.out hb); have n3 := aM_ (blk_below (g := gb245) (o := .cells #[.slice Ao13 t242.length co13] 24 (0, 0)) (by (with_reducible repeat (first | refine bN_ ?_ _ | refine bD_ ?_ | refine bA_ ?_ _)); refine blk_put (cs := #[.slice none 0 0]) ?_ 0 _ rfl; exact rW_ BK245.out) hb); have n4 := aM_ (sT_ HB.out hb); clear HO244; clear BK240; clear BK241; clear BK245; clear HB; have HO244 := n0; have BK240 := n1; have BK241 := n2; have BK245 := n3; have HB := n4; clear n0 n1 n2 n3 n4; have hcz35_0 : w34.cell? ⟨gb240, 0, none⟩ = some (.slice A0_0 l0_0.length c0_0) := (blk_cell BK240.out 0).trans rfl; have hfz35_0 := blk_frozen BK240.out 0) | (go_at_call 28; (with_reducible refine (impl_ViewOk.calls k _ _ l0_0 _ _ l1 true _ ?side1 ?side2 ?side3 ?side4 A19.out).mono ?_); (case side1 => exact cS_ (Kd.C_below HR0_0.out HB.out)); (case side2 => exact HC0_0.out); (case side3 => exact cS_ (Kd.C_below HR1.out HB.out)); (case side4 => exact HC1.out); rintro e w36 ⟨rfl, hb⟩; have n0 := aM_ (bS_ HO244.out hb); have n1 := aM_ (nB_ BK240.out hb); have n2 := aM_ (nB_ BK241.out hb); have n3 := aM_ (nB_ BK245.out hb); have n4 := aM_ (sT_ HB.out hb); clear HO244; clear BK240; clear BK241; clear BK245; clear HB; have HO244 := n0; have BK240 := n1; have BK241 := n2; have BK245 := n3; have HB := n4; clear n0 n1 n2 n3 n4) | (go_at_call 56; (with_reducible refine (impl_isCell.calls a2 false _ A21.out).mono ?_); rintro e w' ⟨rfl, ⟨nd, rfl⟩⟩))
     go_meet
     case rel => exact ⟨_, (true), (by first | rfl | (simp; done) | (simp [*]; done)), H', ⟨by first | omega | exact Nat.le_refl _⟩, ⟨by (with_reducible repeat (first | apply Kd.S_alloc | apply Kd.S_drewN | apply Kd.S_drew)); exact HO244.out⟩, ⟨rW_ BK240.out⟩, ⟨rW_ BK241.out⟩, ⟨rW_ BK245.out⟩, ⟨gW_ HB.out⟩⟩
   ·replace c20 := Bool.eq_false_iff.mpr c20
    subst c20
    have H1 : (impl_Swap.j0 k l1 a2 a3 true t242) = some (r1, r2, r3) := by rw [if_neg (show ¬ (false = true) by decide)] at H; exact H
    clear H
    have H := H1
    clear H1
    have H' := aM_ H
    clear H
    have hnb37 := NB240_241.out
    have hnc37 := NB241_240.out
    have hnb38 := NB240_245.out
    have hnc38 := NB245_240.out
    have hcz39_0 : w12.cell? ⟨gb240, 0, none⟩ = some (.slice A0_0 l0_0.length c0_0) := (blk_cell BK240.out 0).trans rfl
    have hfz39_0 := blk_frozen BK240.out 0
    go_wp2_with (first | ((with_reducible refine gate_callee (f := 26) rfl ?_); refine gL_ (some 18) Try.func26 #[.agg #[.slice A0_0 l0_0.length c0_0]] ?_; (with_reducible refine (impl_MemoryOk.calls k _ _ l0_0 true _ ?side1 ?side2 A17.out).mono ?_); (case side1 => exact Kd.C_below HR0_0.out (gB_ HB.out)); (case side2 => exact HC0_0.out); rintro e w40 ⟨rfl, hb⟩; refine ⟨_, rfl, ?_⟩; have n0 := aM_ (Kd.S_below (by (with_reducible repeat (first | apply Kd.S_alloc | apply Kd.S_drewN | apply Kd.S_drew)); exact (Kd.S_mono (Kd.S_far (p := ⟨gb245, 0, none⟩) (Kd.S_types HO244.out BK245.out (by decide)) (fun _ hk => hk.2) (.slice Ao13 t242.length co13)) (fun _ h_ => h_.1))) hb); have n1 := aM_ (nBf_ BK240.out hb); have n2 := aM_ (nBf_ BK241.out hb); have n3 := aM_ (blk_below (g := gb245) (o := .cells #[.slice Ao13 t242.length co13] 24 (0, 0)) (by (with_reducible repeat (first | refine bN_ ?_ _ | refine bD_ ?_ | refine bA_ ?_ _)); refine blk_put (cs := #[.slice none 0 0]) ?_ 0 _ rfl; exact rW_ BK245.out) hb); have n4 := aM_ (sT_ HB.out hb); clear HO244; clear BK240; clear BK241; clear BK245; clear HB; have HO244 := n0; have BK240 := n1; have BK241 := n2; have BK245 := n3; have HB := n4; clear n0 n1 n2 n3 n4; have hcz41_0 : w40.cell? ⟨gb240, 0, none⟩ = some (.slice A0_0 l0_0.length c0_0) := (blk_cell BK240.out 0).trans rfl; have hfz41_0 := blk_frozen BK240.out 0) | (go_at_call 28; (with_reducible refine (impl_ViewOk.calls k _ _ l0_0 _ _ l1 false _ ?side1 ?side2 ?side3 ?side4 A19.out).mono ?_); (case side1 => exact cS_ (Kd.C_below HR0_0.out HB.out)); (case side2 => exact HC0_0.out); (case side3 => exact cS_ (Kd.C_below HR1.out HB.out)); (case side4 => exact HC1.out); rintro e w42 ⟨rfl, hb⟩; have n0 := aM_ (bS_ HO244.out hb); have n1 := aM_ (nB_ BK240.out hb); have n2 := aM_ (nB_ BK241.out hb); have n3 := aM_ (nB_ BK245.out hb); have n4 := aM_ (sT_ HB.out hb); clear HO244; clear BK240; clear BK241; clear BK245; clear HB; have HO244 := n0; have BK240 := n1; have BK241 := n2; have BK245 := n3; have HB := n4; clear n0 n1 n2 n3 n4))
    go_meet
    case rel => exact ⟨_, (true), (by first | rfl | (simp; done) | (simp [*]; done)), H', ⟨by first | omega | exact Nat.le_refl _⟩, ⟨by (with_reducible repeat (first | apply Kd.S_alloc | apply Kd.S_drewN | apply Kd.S_drew)); exact HO244.out⟩, ⟨rW_ BK240.out⟩, ⟨rW_ BK241.out⟩, ⟨rW_ BK245.out⟩, ⟨gW_ HB.out⟩⟩
  ·replace c18 := Bool.eq_false_iff.mpr c18
   subst c18
   have H1 : (impl_Swap.j0 k l1 a2 a3 true t242) = some (r1, r2, r3) := by rw [if_neg (show ¬ (false = true) by decide)] at H; exact H
   clear H
   have H := H1
   clear H1
   have H' := aM_ H
   clear H
   have hnb43 := NB240_241.out
   have hnc43 := NB241_240.out
   have hnb44 := NB240_245.out
   have hnc44 := NB245_240.out
   have hcz45_0 : w12.cell? ⟨gb240, 0, none⟩ = some (.slice A0_0 l0_0.length c0_0) := (blk_cell BK240.out 0).trans rfl
   have hfz45_0 := blk_frozen BK240.out 0
   go_wp2_with (first | ((with_reducible refine gate_callee (f := 26) rfl ?_); refine gL_ (some 18) Try.func26 #[.agg #[.slice A0_0 l0_0.length c0_0]] ?_; (with_reducible refine (impl_MemoryOk.calls k _ _ l0_0 false _ ?side1 ?side2 A17.out).mono ?_); (case side1 => exact Kd.C_below HR0_0.out (gB_ HB.out)); (case side2 => exact HC0_0.out); rintro e w46 ⟨rfl, hb⟩; refine ⟨_, rfl, ?_⟩; have n0 := aM_ (Kd.S_below (by (with_reducible repeat (first | apply Kd.S_alloc | apply Kd.S_drewN | apply Kd.S_drew)); exact (Kd.S_mono (Kd.S_far (p := ⟨gb245, 0, none⟩) (Kd.S_types HO244.out BK245.out (by decide)) (fun _ hk => hk.2) (.slice Ao13 t242.length co13)) (fun _ h_ => h_.1))) hb); have n1 := aM_ (nBf_ BK240.out hb); have n2 := aM_ (nBf_ BK241.out hb); have n3 := aM_ (blk_below (g := gb245) (o := .cells #[.slice Ao13 t242.length co13] 24 (0, 0)) (by (with_reducible repeat (first | refine bN_ ?_ _ | refine bD_ ?_ | refine bA_ ?_ _)); refine blk_put (cs := #[.slice none 0 0]) ?_ 0 _ rfl; exact rW_ BK245.out) hb); have n4 := aM_ (sT_ HB.out hb); clear HO244; clear BK240; clear BK241; clear BK245; clear HB; have HO244 := n0; have BK240 := n1; have BK241 := n2; have BK245 := n3; have HB := n4; clear n0 n1 n2 n3 n4))
   go_meet
   case rel => exact ⟨_, (true), (by first | rfl | (simp; done) | (simp [*]; done)), H', ⟨by first | omega | exact Nat.le_refl _⟩, ⟨by (with_reducible repeat (first | apply Kd.S_alloc | apply Kd.S_drewN | apply Kd.S_drew)); exact HO244.out⟩, ⟨rW_ BK240.out⟩, ⟨rW_ BK241.out⟩, ⟨rW_ BK245.out⟩, ⟨gW_ HB.out⟩⟩
 case rest =>
  clear HC6
  try clear c1
  try clear c2
  try clear p2
  try clear c3
  try clear c4
  try clear c5
  try clear c9
  try clear c14
  try clear c15
  try clear c18
  try clear c20
  try clear c22
  try clear c24
  try clear c25
  try clear c26
  try clear c31
  try clear c32
  try clear c37
  try clear c38
  try clear c43
  try clear c44
  try clear c45
  try clear hcz10_0 hfz10_0
  try clear hcz16_0 hfz16_0
  try clear hcz26_0 hfz26_0
  try clear hcz28_0 hfz28_0
  try clear hcz33_0 hfz33_0
  try clear hcz35_0 hfz35_0
  try clear hcz39_0 hfz39_0
  try clear hcz41_0 hfz41_0
  try clear hcz45_0 hfz45_0
  obtain ⟨kq, x35_5, rfl, HA, HJ5, HO_246000, BK240, BK241, BK245, HB⟩ := hcut
  cases kq with
  | zero => exact absurd HA.out (by simp [impl_Swap.j0])
  | succ kj5 =>
   have H := HA.out
   clear HA
   simp only [impl_Swap.j0] at H
   by_cases c47 : x35_5 = true
   ·subst c47
    have H1 : ((impl_copyInts.f l1).bind fun t250 => (some (t242, t250, 0))) = some (r1, r2, r3) := by rw [if_pos rfl] at H; exact H
    clear H
    have H := H1
    clear H1
    replace H := Option.bind_eq_some_iff.mp H
    obtain ⟨t250, A480, H⟩ := H
    replace H : (some (t242, t250, 0)) = some (r1, r2, r3) := H
    have A48 := aM_ A480
    clear A480
    simp only [Option.some.injEq, Prod.mk.injEq] at H
    obtain ⟨rfl, rfl, rfl⟩ := H
    try go_wp2
    have n0 := aM_ (Kd.S_drew HO_246000.out)
    have n1 := aM_ (blk_drew BK240.out)
    have n2 := aM_ (blk_drew BK241.out)
    have n3 := aM_ (blk_drew BK245.out)
    have n4 := aM_ (below_drew1 HB.out)
    clear HO_246000
    clear BK240
    clear BK241
    clear BK245
    clear HB
    have HO_246000 := n0
    have BK240 := n1
    have BK241 := n2
    have BK245 := n3
    have HB := n4
    clear n0 n1 n2 n3 n4
    refine start_ (n := 6) (S := fun w' => w'.cell? ⟨gb245, 0, none⟩ = some (.slice Ao13 t242.length co13)) (ds := []) (mk_ 6 0) (by kernel_rfl) rfl rfl ((blk_cell BK245.out 0).trans rfl) (fun hHeld => ?_)
    generalize wc.drew = w49 at HO_246000 BK240 BK241 BK245 HB hHeld ⊢
    refine pU_ 1 (some 37) (mk_ 6 2) ?_
    refine take_ (i := 0) (N := some 36) (v := ?_) (a' := ?_) #[true, true, false, false, false, false] rfl rfl (by kernel_rfl) (fun _ _ _ h => h) (Or.inl ⟨by rfl, ?_⟩) hHeld ?_ ?_
    rotate_left
    ·intro w' s0
     go_simp
     with_reducible rfl
    rotate_left
    ·simp only [pt_, pn_, sI_, s0_, s1_, i64_w, i32_w]
     rfl
    refine oN_ 2 (some 38) (mk_ 6 7) (fun K hK => ?_)
    refine gO_ Try.func58 #[.slice A1 l1.length c1] ?_
    with_reducible refine (impl_copyInts.calls _ _ l1 t250 _ ?side1 ?side2 A48.out).mono ?_
    (case side1 => exact cS_ (Kd.C_below HR1.out HB.out))
    (case side2 => exact HC1.out)
    rintro e w50 ⟨v251, rfl, ho0, hb⟩
    refine ⟨_, rfl, ?_⟩
    have n0 := aM_ (Kd.S_elder' (by (with_reducible repeat (first | apply Kd.S_alloc | apply Kd.S_drewN | apply Kd.S_drew)); exact HO_246000.out) (Kd.R_base ho0) hb)
    have n1 := aM_ (Kd.R_lower ho0 (below_size (gB_ HB.out)))
    have n2 := aM_ (nB_ BK240.out hb)
    have n3 := aM_ (nB_ BK241.out hb)
    have n4 := aM_ (nB_ BK245.out hb)
    have n5 := aM_ (sT_ HB.out hb)
    clear HO_246000
    clear BK240
    clear BK241
    clear BK245
    clear HB
    have HO_246000 := n0
    have HO252 := n1
    have BK240 := n2
    have BK241 := n3
    have BK245 := n4
    have HB := n5
    clear n0 n1 n2 n3 n4 n5
    (try clear hb)
    (try clear hb2)
    (try clear hk)
    (try clear hi)
    (try clear ho0)
    refine hK.out _ _ ((blk_cell BK245.out 0).trans rfl) (fun hHeld => ?_)
    clear hK K
    refine norm_ (a' := ?_) ?_ ?_
    rotate_left
    ·show Act.put _ (some 38) _ = _
     simp only [pt_, pn_, sI_, s0_, s1_, i64_w, i32_w]
     rfl
    refine oN_ 3 (none) (mk_ 6 15) (fun K hK => ?_)
    have hs51 : w50.cell? ⟨gb241, 0, none⟩ = some (.slice none 0 0) := (blk_cell BK241.out 0).trans rfl
    have hfs51 := blk_frozen BK241.out 0
    have hns51_0 := NB240_241.out
    have hns51_2 := NB245_241.out
    have hms51_0 := NB241_240.out
    have hms51_2 := NB241_245.out
    refine skip_ (w1 := ?_) (by rfl) rfl ?_ ?_
    rotate_left
    ·go_simp
     rfl
    refine hK.out _ _ ((cf_ NB245_241.out hHeld)) (fun hHeld => ?_)
    clear hK K
    refine pU_ 4 (some 9) (mk_ 6 31) ?_
    refine pU_ 5 (some 10) (mk_ 6 63) ?_
    refine done_ (by kernel_rfl) ?_
    try go_wp2
    refine bodyPost_ret (results_ctt rfl _ _ gb241 24 #[.slice Ao13 t242.length co13] (0, 0) _ rfl (by (with_reducible repeat (first | refine bN_ ?_ _ | refine bD_ ?_ | refine bA_ ?_ _)); refine blk_put (cs := #[.slice none 0 0]) ?_ 0 _ rfl; exact rW_ BK241.out) Try.underlying24 rfl (by kernel_rfl)) rfl ?_
    exact ⟨_, _, fR_, by (with_reducible repeat (first | apply Kd.S_alloc | apply Kd.S_drewN | apply Kd.S_drew)); exact Kd.S_mono (Kd.S_far (p := ⟨gb241, 0, none⟩) (Kd.S_types HO_246000.out BK241.out (by decide)) (fun _ hk => hk.2) (.slice Ao13 t242.length co13)) (fun _ hk => hk.1.2), by (with_reducible repeat (first | apply rA_ | apply rN_ | apply rD_)); exact Kd.R_mono (Kd.R_far (p := ⟨gb241, 0, none⟩) (Kd.R_types HO252.out BK241.out (by decide)) (fun _ hk => hk.2) (.slice Ao13 t242.length co13)) (fun _ hk => trivial), gB_ HB.out⟩
   ·replace c47 := Bool.eq_false_iff.mpr c47
    subst c47
    have H1 : ((impl_Memory_load.f kj5 t242 l1 a2 0 true).bind fun bt253 => ((impl_Memory_store.f t242 bt253.2 a2 a3 true).bind fun bt257 => (some (bt257.1, bt257.2, bt253.1)))) = some (r1, r2, r3) := by rw [if_neg (show ¬ (false = true) by decide)] at H; exact H
    clear H
    have H := H1
    clear H1
    replace H := Option.bind_eq_some_iff.mp H
    obtain ⟨⟨t253, t254⟩, A520, H⟩ := H
    replace H : ((impl_Memory_store.f t242 t254 a2 a3 true).bind fun bt257 => (some (bt257.1, bt257.2, t253))) = some (r1, r2, r3) := H
    have A52 := aM_ A520
    clear A520
    replace H := Option.bind_eq_some_iff.mp H
    obtain ⟨⟨t257m, t257⟩, A530, H⟩ := H
    replace H : (some (t257m, t257, t253)) = some (r1, r2, r3) := H
    have A53 := aM_ A530
    clear A530
    simp only [Option.some.injEq, Prod.mk.injEq] at H
    obtain ⟨rfl, rfl, rfl⟩ := H
    have hnb54 := NB245_240.out
    have hnc54 := NB240_245.out
    have hnb55 := NB245_241.out
    have hnc55 := NB241_245.out
    have hcz56_0 : wc.cell? ⟨gb245, 0, none⟩ = some (.slice Ao13 t242.length co13) := (blk_cell BK245.out 0).trans rfl
    have hfz56_0 := blk_frozen BK245.out 0
    go_wp2_with (first | ((with_reducible refine gate_callee (f := 60) rfl ?_); refine gL_ (some 42) Try.func60 #[.pointer (some ⟨gb245, 0, none⟩), .slice A1 l1.length c1, .int .i64 a2, .int .i64 0, .bool true] ?_; (with_reducible refine (impl_Memory_load.calls kj5 gb245 Ao13 co13 t242 _ _ l1 a2 0 true t253 t254 _ ?sideK ?side1 ?side2 ?side3 ?side4 A52.out).mono ?_); (case sideK => exact (by (with_reducible repeat (first | refine bN_ ?_ _ | refine bD_ ?_ | refine bA_ ?_ _)); exact BK245.out)); (case side1 => exact cS_ (Kd.R_reads' (S_Rs HO_246000.out)).2.2); (case side2 => exact (Kd.R_reads' (S_Rs HO_246000.out)).2.1); (case side3 => exact cS_ (Kd.C_below HR1.out HB.out)); (case side4 => exact HC1.out); rintro e w57 ⟨v255, rfl, ho0, hb⟩; refine ⟨_, rfl, ?_⟩; have n0 := aM_ (Kd.S_elder' (by (with_reducible repeat (first | apply Kd.S_alloc | apply Kd.S_drewN | apply Kd.S_drew)); exact HO_246000.out) (Kd.R_base ho0) hb); have n1 := aM_ (Kd.R_lower ho0 (below_size (gB_ HB.out))); have n2 := aM_ (nB_ BK240.out hb); have n3 := aM_ (nB_ BK241.out hb); have n4 := aM_ (nB_ BK245.out hb); have n5 := aM_ (sT_ HB.out hb); clear HO_246000; clear BK240; clear BK241; clear BK245; clear HB; have HO_246000 := n0; have HO256 := n1; have BK240 := n2; have BK241 := n3; have BK245 := n4; have HB := n5; clear n0 n1 n2 n3 n4 n5; (try clear ho0); have hcz58_0 : w57.cell? ⟨gb245, 0, none⟩ = some (.slice Ao13 t242.length co13) := (blk_cell BK245.out 0).trans rfl; have hfz58_0 := blk_frozen BK245.out 0; obtain ⟨Ao59, co59, eo59⟩ := Kd.R_slice HO256.out; subst eo59) | ((with_reducible refine gate_callee (f := 59) rfl ?_); refine gL_ (some 48) Try.func59 #[.pointer (some ⟨gb245, 0, none⟩), .slice Ao59 t254.length co59, .int .i64 a2, .int .i64 a3, .bool true] ?_; (with_reducible refine (impl_Memory_store.calls (fun k_ => ((((w.heap.size ≤ k_) ∧ k_ ≠ gb240) ∧ k_ ≠ gb241) ∧ k_ ≠ gb245)) gb245 Ao13 co13 t242 _ _ t254 a2 a3 true t257m t257 w.heap.size _ ?sideK ?side1 ?sideB ?side3 ?side4 A53.out).mono ?_); (case sideK => exact BK245.out); (case side1 => have h9_ := Kd.S_types (Kd.S_types (Kd.S_types (Kd.S_bound HO_246000.out) BK240.out (by decide)) BK241.out (by decide)) BK245.out (by decide); exact Kd.S_mono h9_ (fun _ hk => ⟨⟨⟨hk.1.1.1.2.1, hk.1.1.2⟩, hk.1.2⟩, hk.2⟩)); (case sideB => exact (below_size (gB_ HB.out))); (case side3 => exact cS_ (Kd.R_reads' HO256.out).2.2); (case side4 => exact (Kd.R_reads' HO256.out).2.1); rintro e w60 ⟨v258, rfl, hbk_, ho9_, ho0, hb, hk_⟩; refine ⟨_, rfl, ?_⟩; have n0 := aM_ (Kd.S_mono (ok' := fun k_ => (w.heap.size ≤ k_) ∧ some k_ ≠ (v258 : Value).ownBlock) ho9_ (fun k hk => ⟨hk.1.elim (fun h => h.1.1.1) (fun h => Nat.le_trans (below_size (gB_ HB.out)) h), hk.2⟩)); have n1 := aM_ trivial; have n2 := aM_ (Kd.R_lower (Kd.R_new' ho0 (Kd.R_lt (by (with_reducible repeat (first | apply rA_ | apply rN_ | apply rD_)); exact HO256.out))) (below_size (gB_ HB.out))); have n3 := aM_ (blk_kept (g := gb240) (o := .cells #[.slice A0_0 l0_0.length c0_0] 24 (0, 0)) (by (with_reducible repeat (first | refine bN_ ?_ _ | refine bD_ ?_ | refine bA_ ?_ _)); exact BK240.out) hk_ (fun h_ => absurd rfl (by first | exact h_.2 | exact h_.1.2 | exact h_.1.1.2 | exact h_.1.1.1.2))); have n4 := aM_ (blk_kept (g := gb241) (o := .cells #[.slice none 0 0] 24 (0, 0)) (by (with_reducible repeat (first | refine bN_ ?_ _ | refine bD_ ?_ | refine bA_ ?_ _)); exact BK241.out) hk_ (fun h_ => absurd rfl (by first | exact h_.2 | exact h_.1.2 | exact h_.1.1.2 | exact h_.1.1.1.2))); have n5 := aM_ hbk_; have n6 := aM_ (Below.trans (gB_ HB.out) hb); clear HO_246000; clear HO256; clear BK240; clear BK241; clear BK245; clear HB; have HO_246000 := n0; have HO256 := n1; have HO259 := n2; have BK240 := n3; have BK241 := n4; have BK245 := n5; have HB := n6; clear n0 n1 n2 n3 n4 n5 n6; (try clear hb); (try clear hk_ hbk_ ho9_); (try clear hb2); (try clear hk); (try clear hi); (try clear ho0); have hcz61_0 : w60.cell? ⟨gb245, 0, none⟩ = some (.slice Ao13 t242.length co13) := (blk_cell BK245.out 0).trans rfl; have hfz61_0 := blk_frozen BK245.out 0; have hnb62 := NB241_240.out; have hnc62 := NB240_241.out; have hcz63_0 : w60.cell? ⟨gb241, 0, none⟩ = some (.slice none 0 0) := (blk_cell BK241.out 0).trans rfl; have hfz63_0 := blk_frozen BK241.out 0))
    refine bodyPost_ret (results_ctt rfl _ _ gb241 24 #[.slice Ao13 t242.length co13] (0, 0) _ rfl (by (with_reducible repeat (first | refine bN_ ?_ _ | refine bD_ ?_ | refine bA_ ?_ _)); refine blk_put (cs := #[.slice none 0 0]) ?_ 0 _ rfl; exact rW_ BK241.out) Try.underlying24 rfl (by kernel_rfl)) rfl ?_
    exact ⟨_, _, fR_, by (with_reducible repeat (first | apply Kd.S_alloc | apply Kd.S_drewN | apply Kd.S_drew)); exact Kd.S_mono (Kd.S_far (p := ⟨gb241, 0, none⟩) (Kd.S_types HO_246000.out BK241.out (by decide)) (fun _ hk => hk.2) (.slice Ao13 t242.length co13)) (fun _ hk => hk.1.2), by (with_reducible repeat (first | apply rA_ | apply rN_ | apply rD_)); exact Kd.R_mono (Kd.R_far (p := ⟨gb241, 0, none⟩) (Kd.R_types HO259.out BK241.out (by decide)) (fun _ hk => hk.2) (.slice Ao13 t242.length co13)) (fun _ hk => trivial), gB_ HB.out⟩
def spec_l1In.f (a0 : Int) (a1 : Int) (a2 : Int) : Option (Bool) := if a0 ≥ a1 then (some (decide (a0 ≤ a2))) else (some false)
set_option maxHeartbeats 8000000 in
set_option maxRecDepth 100000 in
theorem spec_l1In.calls (a0 : Int) (a1 : Int) (a2 : Int) (r : Bool) (w : World) (h : spec_l1In.f a0 a1 a2 = some r) :
  Calls Try.prog 69 #[.int .i64 a0, .int .i64 a1, .int .i64 a2] w fun e w' => e = .returned (.bool r) ∧ Drawn0 w w' := by
 have H : (if a0 ≥ a1 then (some (decide (a0 ≤ a2))) else (some false)) = some r := h
 clear h
 by_cases c4 : a0 ≥ a1
 ·rw [if_pos c4] at H
  have c4b0 : decide (a1 ≤ a0) = true := decide_eq_true c4
  clear c4
  obtain rfl := Option.some.inj H
  go_enter Try.func69, Try.ntmps69
  go_wp2
  go_ret
  exact ⟨by first | rfl | (simp; done) | (simp [*]; done), by repeat (first | exact Drawn0.refl _ | apply Drawn0.step)⟩
 ·rw [if_neg c4] at H
  have c4b0 : decide (a1 ≤ a0) = false := decide_eq_false c4
  clear c4
  obtain rfl := Option.some.inj H
  go_enter Try.func69, Try.ntmps69
  go_wp2
  go_ret
  exact ⟨by first | rfl | (simp; done) | (simp [*]; done), by repeat (first | exact Drawn0.refl _ | apply Drawn0.step)⟩
def spec_ViewOk.l0 : Nat → List Int → Int → List (List (S43)) → Option (Bool)
  | 0, _, _, _ => none
  | k + 1, x1, x5, x261000 => if x5 < (x1.length : Int) then (if 0 ≤ x5 then (if x5 < (x261000.length : Int) then ((spec_l1In.f (rd x1 x5) 0 (wrap64 (((rd_L3 x261000 x5).length : Int) - 1))).bind fun t263 => (if t263 = true then (spec_ViewOk.l0 k x1 (wrap64 (x5 + 1)) x261000) else (some false))) else (none)) else (none)) else (some true)
def spec_ViewOk.f (k : Nat) (l0_0 : List (List (S43))) (l1 : List Int) : Option (Bool) := if (l1.length : Int) = (l0_0.length : Int) then (spec_ViewOk.l0 k l1 0 l0_0) else (some false)
set_option maxHeartbeats 8000000 in
set_option maxRecDepth 100000 in
theorem spec_ViewOk.calls (k : Nat) (A0_0 : Option Addr) (c0_0 : Nat) (l0_0 : List (List (S43))) (A1 : Option Addr) (c1 : Nat) (l1 : List Int) (r : Bool) (w : World) (hr0_0 : Kd.C (Kd.slice 43 k43) w A0_0 l0_0.length l0_0) (hc0_0 : l0_0.length ≤ c0_0) (hr1 : Kd.C (Kd.int .i64) w A1 l1.length l1) (hc1 : l1.length ≤ c1) (h : spec_ViewOk.f k l0_0 l1 = some r) :
  Calls Try.prog 29 #[.agg #[.slice A0_0 l0_0.length c0_0], .slice A1 l1.length c1] w fun e w' => e = .returned (.bool r) ∧ Below w.heap.size w w' := by
 have hu24 := Try.underlying24
 have HR0_0 := aM_ hr0_0
 have HC0_0 := aM_ hc0_0
 clear hr0_0 hc0_0
 have HR1 := aM_ hr1
 have HC1 := aM_ hc1
 clear hr1 hc1
 have HB := aM_ (Below.refl w.heap.size w)
 have H : (if (l1.length : Int) = (l0_0.length : Int) then (spec_ViewOk.l0 k l1 0 l0_0) else (some false)) = some r := h
 clear h
 by_cases c3 : (l1.length : Int) = (l0_0.length : Int)
 ·rw [if_pos c3] at H
  have c3b0 : ((l1.length : Int) == (l0_0.length : Int)) = true := beq_iff_eq.mpr c3
  have c3b1 : ((l1.length : Int) != (l0_0.length : Int)) = false := bne_eq_false_iff_eq.mpr c3
  have c3b2 : (l1.length == l0_0.length) = true := by first | simpa using c3 | (simp at c3 ⊢; omega)
  clear c3
  have H' := aM_ H
  clear H
  go_enter Try.func29, Try.ntmps29
  go_wp2_with (first | ((with_reducible refine gate_dst (N := 2) rfl ?_); refine bX_ 2 (cs := #[.slice A0_0 l0_0.length c0_0]) (t := 24) ?_; intro gb260 hg w4 hbox hb; have n0 := aM_ (sT_ HB.out hb); have n1 := aM_ (hbox); have n2 := aM_ (sZ_ hg HB.out); have n3 := aM_ (sZ_ hg HB.out); clear HB; have HB := n0; have BK260 := n1; have GW260 := n2; have GE260 := n3; clear n0 n1 n2 n3; clear hb hbox hg; have hcz5_0 : w4.cell? ⟨gb260, 0, none⟩ = some (.slice A0_0 l0_0.length c0_0) := (blk_cell BK260.out 0).trans rfl; have hfz5_0 := blk_frozen BK260.out 0))
  repeat (go_quiet (first | ((with_reducible refine gate_dst (N := 2) rfl ?_); refine bX_ 2 (cs := #[.slice A0_0 l0_0.length c0_0]) (t := 24) ?_; intro gb260 hg w4 hbox hb; have n0 := aM_ (sT_ HB.out hb); have n1 := aM_ (hbox); have n2 := aM_ (sZ_ hg HB.out); have n3 := aM_ (sZ_ hg HB.out); clear HB; have HB := n0; have BK260 := n1; have GW260 := n2; have GE260 := n3; clear n0 n1 n2 n3; clear hb hbox hg; have hcz5_0 : w4.cell? ⟨gb260, 0, none⟩ = some (.slice A0_0 l0_0.length c0_0) := (blk_cell BK260.out 0).trans rfl; have hfz5_0 := blk_frozen BK260.out 0)); try go_wp2_with (first | ((with_reducible refine gate_dst (N := 2) rfl ?_); refine bX_ 2 (cs := #[.slice A0_0 l0_0.length c0_0]) (t := 24) ?_; intro gb260 hg w4 hbox hb; have n0 := aM_ (sT_ HB.out hb); have n1 := aM_ (hbox); have n2 := aM_ (sZ_ hg HB.out); have n3 := aM_ (sZ_ hg HB.out); clear HB; have HB := n0; have BK260 := n1; have GW260 := n2; have GE260 := n3; clear n0 n1 n2 n3; clear hb hbox hg; have hcz5_0 : w4.cell? ⟨gb260, 0, none⟩ = some (.slice A0_0 l0_0.length c0_0) := (blk_cell BK260.out 0).trans rfl; have hfz5_0 := blk_frozen BK260.out 0)))
  go_loopg [5] k (fun kq v5 w' => ∃ (x5_1 : Int), v5 = .int .i64 x5_1 ∧ Aside0 (spec_ViewOk.l0 kq l1 x5_1 l0_0 = some r) ∧ Aside0 (kq ≤ k) ∧ Aside0 (w'.heap[gb260]? = some (.cells #[(.slice A0_0 l0_0.length c0_0)] 24 (0, 0))) ∧ Aside0 (Below w.heap.size w w'))
  case atStart => exact ⟨(0), (by first | rfl | (simp; done) | (simp [*]; done)), H', ⟨Nat.le_refl _⟩, ⟨rW_ BK260.out⟩, ⟨gW_ HB.out⟩⟩
  case round =>
   clear H'
   try clear c1
   try clear c2
   try clear p2
   try clear c3
   try clear c3b0
   try clear c3b1
   try clear c3b2
   try clear hcz5_0 hfz5_0
   obtain ⟨x5_1, rfl, HA, HK1, BK260, HB⟩ := hrel
   cases gk with
   | zero => exact absurd HA.out (by simp [spec_ViewOk.l0])
   | succ k1 =>
    have H := HA.out
    clear HA
    simp only [spec_ViewOk.l0] at H
    by_cases c6 : x5_1 < (l1.length : Int)
    ·rw [if_pos c6] at H
     have c6b0 : decide (x5_1 < (l1.length : Int)) = true := decide_eq_true c6
     clear c6
     by_cases c7 : 0 ≤ x5_1
     ·rw [if_pos c7] at H
      have c7b0 : decide (0 ≤ x5_1) = true := decide_eq_true c7
      clear c7
      by_cases c8 : x5_1 < (l0_0.length : Int)
      ·rw [if_pos c8] at H
       have c8b0 : decide (x5_1 < (l0_0.length : Int)) = true := decide_eq_true c8
       clear c8
       replace H := Option.bind_eq_some_iff.mp H
       obtain ⟨t263, A90, H⟩ := H
       replace H : (if t263 = true then (spec_ViewOk.l0 k1 l1 (wrap64 (x5_1 + 1)) l0_0) else (some false)) = some r := H
       have A9 := aM_ A90
       clear A90
       by_cases c10 : t263 = true
       ·subst c10
        have H1 : (spec_ViewOk.l0 k1 l1 (wrap64 (x5_1 + 1)) l0_0) = some r := by rw [if_pos rfl] at H; exact H
        clear H
        have H := H1
        clear H1
        have H' := aM_ H
        clear H
        have p261 : 0 ≤ (x5_1 : Int) := of_decide_eq_true (by first | (with_reducible assumption) | assumption)
        have q261 : x5_1 < (l1.length : Int) := of_decide_eq_true (by first | (with_reducible assumption) | assumption)
        obtain ⟨ad261, e261, hx261_0⟩ := Kd.at_int HR1.out x5_1 p261 q261
        cases e261
        replace hx261_0 := cB_ HB.out hx261_0
        replace p261 := eq_true p261
        replace q261 := eq_true q261
        have hcz11_0 : wr.cell? ⟨gb260, 0, none⟩ = some (.slice A0_0 l0_0.length c0_0) := (blk_cell BK260.out 0).trans rfl
        have hfz11_0 := blk_frozen BK260.out 0
        have p262 : 0 ≤ (x5_1 : Int) := of_decide_eq_true (by first | (with_reducible assumption) | assumption)
        have q262 : x5_1 < (l0_0.length : Int) := of_decide_eq_true (by first | (with_reducible assumption) | assumption)
        obtain ⟨ad262, A262_0, c262_0, e262, hx262_0, hl262_0, hi262_0⟩ := at_L3 HR0_0.out x5_1 p262 q262
        cases e262
        replace hx262_0 := cB_ HB.out hx262_0
        have HR262_0 := aM_ hi262_0
        have HC262_0 := aM_ hl262_0
        clear hi262_0 hl262_0
        replace p262 := eq_true p262
        replace q262 := eq_true q262
        go_wp2_with (first | (go_at_call 69; (with_reducible refine (spec_l1In.calls (rd l1 x5_1) 0 (wrap64 (((rd_L3 l0_0 x5_1).length : Int) - 1)) true _ A9.out).mono ?_); rintro e w' ⟨rfl, ⟨nd, rfl⟩⟩; (try first | exact ⟨rfl, _, World.drewN_drewN _ _ _⟩ | exact ⟨rfl, _, Eq.trans (World.drewN_drewN _ _ _) (congrArg (World.drewN _) (Nat.add_assoc _ _ _))⟩)))
        repeat (go_quiet (first | (go_at_call 69; (with_reducible refine (spec_l1In.calls (rd l1 x5_1) 0 (wrap64 (((rd_L3 l0_0 x5_1).length : Int) - 1)) true _ A9.out).mono ?_); rintro e w' ⟨rfl, ⟨nd, rfl⟩⟩; (try first | exact ⟨rfl, _, World.drewN_drewN _ _ _⟩ | exact ⟨rfl, _, Eq.trans (World.drewN_drewN _ _ _) (congrArg (World.drewN _) (Nat.add_assoc _ _ _))⟩))); try go_wp2_with (first | (go_at_call 69; (with_reducible refine (spec_l1In.calls (rd l1 x5_1) 0 (wrap64 (((rd_L3 l0_0 x5_1).length : Int) - 1)) true _ A9.out).mono ?_); rintro e w' ⟨rfl, ⟨nd, rfl⟩⟩; (try first | exact ⟨rfl, _, World.drewN_drewN _ _ _⟩ | exact ⟨rfl, _, Eq.trans (World.drewN_drewN _ _ _) (congrArg (World.drewN _) (Nat.add_assoc _ _ _))⟩))))
        go_roundg k1
        case measure => have := HK1.out; omega
        case rel => exact ⟨(wrap64 (x5_1 + 1)), (by first | rfl | (simp; done) | (simp [*]; done)), H', ⟨by have := HK1.out; omega⟩, ⟨rW_ BK260.out⟩, ⟨gW_ HB.out⟩⟩
       ·replace c10 := Bool.eq_false_iff.mpr c10
        subst c10
        have H1 : (some false) = some r := by rw [if_neg (show ¬ (false = true) by decide)] at H; exact H
        clear H
        have H := H1
        clear H1
        obtain rfl := Option.some.inj H
        have p261 : 0 ≤ (x5_1 : Int) := of_decide_eq_true (by first | (with_reducible assumption) | assumption)
        have q261 : x5_1 < (l1.length : Int) := of_decide_eq_true (by first | (with_reducible assumption) | assumption)
        obtain ⟨ad261, e261, hx261_0⟩ := Kd.at_int HR1.out x5_1 p261 q261
        cases e261
        replace hx261_0 := cB_ HB.out hx261_0
        replace p261 := eq_true p261
        replace q261 := eq_true q261
        have hcz12_0 : wr.cell? ⟨gb260, 0, none⟩ = some (.slice A0_0 l0_0.length c0_0) := (blk_cell BK260.out 0).trans rfl
        have hfz12_0 := blk_frozen BK260.out 0
        have p262 : 0 ≤ (x5_1 : Int) := of_decide_eq_true (by first | (with_reducible assumption) | assumption)
        have q262 : x5_1 < (l0_0.length : Int) := of_decide_eq_true (by first | (with_reducible assumption) | assumption)
        obtain ⟨ad262, A262_0, c262_0, e262, hx262_0, hl262_0, hi262_0⟩ := at_L3 HR0_0.out x5_1 p262 q262
        cases e262
        replace hx262_0 := cB_ HB.out hx262_0
        have HR262_0 := aM_ hi262_0
        have HC262_0 := aM_ hl262_0
        clear hi262_0 hl262_0
        replace p262 := eq_true p262
        replace q262 := eq_true q262
        go_wp2_with (first | (go_at_call 69; (with_reducible refine (spec_l1In.calls (rd l1 x5_1) 0 (wrap64 (((rd_L3 l0_0 x5_1).length : Int) - 1)) false _ A9.out).mono ?_); rintro e w' ⟨rfl, ⟨nd, rfl⟩⟩; (try first | exact ⟨rfl, _, World.drewN_drewN _ _ _⟩ | exact ⟨rfl, _, Eq.trans (World.drewN_drewN _ _ _) (congrArg (World.drewN _) (Nat.add_assoc _ _ _))⟩)))
        repeat (go_quiet (first | (go_at_call 69; (with_reducible refine (spec_l1In.calls (rd l1 x5_1) 0 (wrap64 (((rd_L3 l0_0 x5_1).length : Int) - 1)) false _ A9.out).mono ?_); rintro e w' ⟨rfl, ⟨nd, rfl⟩⟩; (try first | exact ⟨rfl, _, World.drewN_drewN _ _ _⟩ | exact ⟨rfl, _, Eq.trans (World.drewN_drewN _ _ _) (congrArg (World.drewN _) (Nat.add_assoc _ _ _))⟩))); try go_wp2_with (first | (go_at_call 69; (with_reducible refine (spec_l1In.calls (rd l1 x5_1) 0 (wrap64 (((rd_L3 l0_0 x5_1).length : Int) - 1)) false _ A9.out).mono ?_); rintro e w' ⟨rfl, ⟨nd, rfl⟩⟩; (try first | exact ⟨rfl, _, World.drewN_drewN _ _ _⟩ | exact ⟨rfl, _, Eq.trans (World.drewN_drewN _ _ _) (congrArg (World.drewN _) (Nat.add_assoc _ _ _))⟩))))
        go_ret
        exact fI_ HB.out
      ·rw [if_neg c8] at H
       exact absurd H (by simp)
     ·rw [if_neg c7] at H
      exact absurd H (by simp)
    ·rw [if_neg c6] at H
     have c6b0 : decide (x5_1 < (l1.length : Int)) = false := decide_eq_false c6
     clear c6
     obtain rfl := Option.some.inj H
     go_wp2
     repeat (go_quiet (fail); try go_wp2)
     go_ret
     exact fI_ HB.out
 ·rw [if_neg c3] at H
  have c3b0 : ((l1.length : Int) == (l0_0.length : Int)) = false := beq_eq_false_iff_ne.mpr c3
  have c3b1 : ((l1.length : Int) != (l0_0.length : Int)) = true := bne_iff_ne.mpr c3
  have c3b2 : (l1.length == l0_0.length) = false := by first | simpa using c3 | (simp at c3 ⊢; omega)
  obtain rfl := Option.some.inj H
  go_enter Try.func29, Try.ntmps29
  go_wp2_with (first | ((with_reducible refine gate_dst (N := 2) rfl ?_); refine bX_ 2 (cs := #[.slice A0_0 l0_0.length c0_0]) (t := 24) ?_; intro gb260 hg w13 hbox hb; have n0 := aM_ (sT_ HB.out hb); have n1 := aM_ (hbox); have n2 := aM_ (sZ_ hg HB.out); have n3 := aM_ (sZ_ hg HB.out); clear HB; have HB := n0; have BK260 := n1; have GW260 := n2; have GE260 := n3; clear n0 n1 n2 n3; clear hb hbox hg; have hcz14_0 : w13.cell? ⟨gb260, 0, none⟩ = some (.slice A0_0 l0_0.length c0_0) := (blk_cell BK260.out 0).trans rfl; have hfz14_0 := blk_frozen BK260.out 0))
  repeat (go_quiet (first | ((with_reducible refine gate_dst (N := 2) rfl ?_); refine bX_ 2 (cs := #[.slice A0_0 l0_0.length c0_0]) (t := 24) ?_; intro gb260 hg w13 hbox hb; have n0 := aM_ (sT_ HB.out hb); have n1 := aM_ (hbox); have n2 := aM_ (sZ_ hg HB.out); have n3 := aM_ (sZ_ hg HB.out); clear HB; have HB := n0; have BK260 := n1; have GW260 := n2; have GE260 := n3; clear n0 n1 n2 n3; clear hb hbox hg; have hcz14_0 : w13.cell? ⟨gb260, 0, none⟩ = some (.slice A0_0 l0_0.length c0_0) := (blk_cell BK260.out 0).trans rfl; have hfz14_0 := blk_frozen BK260.out 0)); try go_wp2_with (first | ((with_reducible refine gate_dst (N := 2) rfl ?_); refine bX_ 2 (cs := #[.slice A0_0 l0_0.length c0_0]) (t := 24) ?_; intro gb260 hg w13 hbox hb; have n0 := aM_ (sT_ HB.out hb); have n1 := aM_ (hbox); have n2 := aM_ (sZ_ hg HB.out); have n3 := aM_ (sZ_ hg HB.out); clear HB; have HB := n0; have BK260 := n1; have GW260 := n2; have GE260 := n3; clear n0 n1 n2 n3; clear hb hbox hg; have hcz14_0 : w13.cell? ⟨gb260, 0, none⟩ = some (.slice A0_0 l0_0.length c0_0) := (blk_cell BK260.out 0).trans rfl; have hfz14_0 := blk_frozen BK260.out 0)))
  go_ret
  exact fI_ HB.out
end Go.Proofs.Ythbcnakmnbilhaa.PFnExactSwap
