/- A part of the proof that the law FnSwap holds for every input: the words, functions and walks that its row needs, without a condition of their own. -/
import Derived.Test.YthbcnakmnbilhaaZFnSwapa2
import Derived.Test.YthbcnakmnbilhaaZFnSwapa3
import Derived.Test.YthbcnakmnbilhaaZFnSwapa5
import Derived.Test.YthbcnakmnbilhaaZFnSwapa11
import Derived.Test.YthbcnakmnbilhaaZFnSwaps
namespace Go.Proofs.Ythbcnakmnbilhaa.PFnSwap
open Go.RowKit Go.Proofs.YthbcnakmnbilhaaW.PrintWords Go.Proofs.YthbcnakmnbilhaaW.PrintLast Go.Proofs.YthbcnakmnbilhaaW.PrintMore Go.Proofs.Ythbcnakmnbilhaa.SepMark
attribute [local go_sem] max2_int min2_int max_two min_two max_three min_three max_four min_four   -- for this text's walks alone
set_option linter.unusedVariables false
set_option linter.unusedSimpArgs false
def impl_Memory_store.f (l0_0 : List (List (S43))) (l1 : List Int) (a2 : Int) (a3 : Int) (a4 : Bool) : Option (List (List (S43)) × List Int) := (impl_copyInts.f l1).bind fun t489 => (if 0 ≤ a2 then (if a2 < (l0_0.length : Int) then (if a2 < (t489.length : Int) then ((some (t489.set (a2 : Int).toNat ((rd_L4 l0_0 a2).length : Int) : List Int)).bind fun y493 => (if 24 ≤ 35184372088832 then (if a2 < ((List.replicate 24 0).length : Int) then (if a4 = true then ((impl_copyInts.f y493).bind fun t499 => (if (rd_L4 l0_0 a2).length < 4398046511104 then (some (l0_0.set (a2 : Int).toNat (rd_L4 l0_0 a2 ++ [(⟨a3, t499⟩ : S43)]), y493)) else (none))) else (if (rd_L4 l0_0 a2).length < 4398046511104 then (some (l0_0.set (a2 : Int).toNat (rd_L4 l0_0 a2 ++ [(⟨a3, (List.replicate 24 0).set (a2 : Int).toNat (rd y493 a2)⟩ : S43)]), y493)) else (none))) else (none)) else (none))) else (none)) else (none)) else (none))
set_option maxHeartbeats 8000000 in
set_option maxRecDepth 100000 in
theorem impl_Memory_store.calls (P0_0_ : Nat → Prop) (g : Nat) (A0_0 : Option Addr) (c0_0 : Nat) (l0_0 : List (List (S43))) (A1 : Option Addr) (c1 : Nat) (l1 : List Int) (a2 : Int) (a3 : Int) (a4 : Bool) (r1 : List (List (S43))) (r2 : List Int) (b0 : Nat) (w : World) (hbk0 : w.heap[g]? = some (.cells #[.slice A0_0 l0_0.length c0_0] 24 (0, 0))) (hS0 : Kd.S (sslice 43 k43) 44 w b0 P0_0_ (.slice A0_0 l0_0.length c0_0) l0_0) (hb0 : b0 ≤ w.heap.size) (hr1 : Kd.C (Kd.int .i64) w A1 l1.length l1) (hc1 : l1.length ≤ c1) (h : impl_Memory_store.f l0_0 l1 a2 a3 a4 = some (r1, r2)) :
  Calls Try.prog 59 #[.pointer (some ⟨g, 0, none⟩), .slice A1 l1.length c1, .int .i64 a2, .int .i64 a3, .bool a4] w fun e w' => ∃ v0_ : Value, e = .returned (v0_) ∧ w'.heap[g]? = some (.cells #[.slice A0_0 l0_0.length c0_0] 24 (0, 0)) ∧ Kd.S (sslice 43 k43) 44 w' b0 (fun k_ => (P0_0_ k_ ∨ w.heap.size ≤ k_) ∧ some k_ ≠ (v0_ : Value).ownBlock) (.slice A0_0 l0_0.length c0_0) r1 ∧ Kd.R (Kd.int .i64) 3 w' w.heap.size (fun k_ => (w.heap.size ≤ k_)) v0_ r2 ∧ Below b0 w w' ∧ Kept w w' P0_0_ := by
 have hr0_0 : Kd.C (Kd.slice 43 k43) w A0_0 l0_0.length l0_0 := (Kd.R_reads' (S_Rs hS0)).2.2
 have hc0_0 : l0_0.length ≤ c0_0 := (Kd.R_reads' (S_Rs hS0)).2.1
 have hS := aM_ hS0
 have hb0w := aM_ hb0
 have BK488 := aM_ hbk0
 clear hS0 hb0 hbk0
 have hu24 := Try.underlying24
 have HR0_0 := aM_ hr0_0
 have HC0_0 := aM_ hc0_0
 clear hr0_0 hc0_0
 have HR1 := aM_ hr1
 have HC1 := aM_ hc1
 clear hr1 hc1
 have HB := aM_ (Below.refl w.heap.size w)
 have H : ((impl_copyInts.f l1).bind fun t489 => (if 0 ≤ a2 then (if a2 < (l0_0.length : Int) then (if a2 < (t489.length : Int) then ((some (t489.set (a2 : Int).toNat ((rd_L4 l0_0 a2).length : Int) : List Int)).bind fun y493 => (if 24 ≤ 35184372088832 then (if a2 < ((List.replicate 24 0).length : Int) then (if a4 = true then ((impl_copyInts.f y493).bind fun t499 => (if (rd_L4 l0_0 a2).length < 4398046511104 then (some (l0_0.set (a2 : Int).toNat (rd_L4 l0_0 a2 ++ [(⟨a3, t499⟩ : S43)]), y493)) else (none))) else (if (rd_L4 l0_0 a2).length < 4398046511104 then (some (l0_0.set (a2 : Int).toNat (rd_L4 l0_0 a2 ++ [(⟨a3, (List.replicate 24 0).set (a2 : Int).toNat (rd y493 a2)⟩ : S43)]), y493)) else (none))) else (none)) else (none))) else (none)) else (none)) else (none))) = some (r1, r2) := h
 clear h
 replace H := Option.bind_eq_some_iff.mp H
 obtain ⟨t489, A60, H⟩ := H
 replace H : (if 0 ≤ a2 then (if a2 < (l0_0.length : Int) then (if a2 < (t489.length : Int) then ((some (t489.set (a2 : Int).toNat ((rd_L4 l0_0 a2).length : Int) : List Int)).bind fun y493 => (if 24 ≤ 35184372088832 then (if a2 < ((List.replicate 24 0).length : Int) then (if a4 = true then ((impl_copyInts.f y493).bind fun t499 => (if (rd_L4 l0_0 a2).length < 4398046511104 then (some (l0_0.set (a2 : Int).toNat (rd_L4 l0_0 a2 ++ [(⟨a3, t499⟩ : S43)]), y493)) else (none))) else (if (rd_L4 l0_0 a2).length < 4398046511104 then (some (l0_0.set (a2 : Int).toNat (rd_L4 l0_0 a2 ++ [(⟨a3, (List.replicate 24 0).set (a2 : Int).toNat (rd y493 a2)⟩ : S43)]), y493)) else (none))) else (none)) else (none))) else (none)) else (none)) else (none)) = some (r1, r2) := H
 have A6 := aM_ A60
 clear A60
 by_cases c7 : 0 ≤ a2
 ·rw [if_pos c7] at H
  have c7b0 : decide (0 ≤ a2) = true := decide_eq_true c7
  clear c7
  by_cases c8 : a2 < (l0_0.length : Int)
  ·rw [if_pos c8] at H
   have c8b0 : decide (a2 < (l0_0.length : Int)) = true := decide_eq_true c8
   clear c8
   by_cases c9 : a2 < (t489.length : Int)
   ·rw [if_pos c9] at H
    have c9b0 : decide (a2 < (t489.length : Int)) = true := decide_eq_true c9
    clear c9
    obtain ⟨y493, hy493⟩ : ∃ y_ : List Int, y_ = (t489.set (a2 : Int).toNat ((rd_L4 l0_0 a2).length : Int)) := ⟨_, rfl⟩
    replace H : (if 24 ≤ 35184372088832 then (if a2 < ((List.replicate 24 0).length : Int) then (if a4 = true then ((impl_copyInts.f y493).bind fun t499 => (if (rd_L4 l0_0 a2).length < 4398046511104 then (some (l0_0.set (a2 : Int).toNat (rd_L4 l0_0 a2 ++ [(⟨a3, t499⟩ : S43)]), y493)) else (none))) else (if (rd_L4 l0_0 a2).length < 4398046511104 then (some (l0_0.set (a2 : Int).toNat (rd_L4 l0_0 a2 ++ [(⟨a3, (List.replicate 24 0).set (a2 : Int).toNat (rd y493 a2)⟩ : S43)]), y493)) else (none))) else (none)) else (none)) = some (r1, r2) := by first | (rw [hy493]; with_reducible exact H) | (have H2_ := (Option.bind_some _ _).symm.trans H; rw [hy493]; with_reducible exact H2_) | (have H2_ := (Option.bind_some _ _).symm.trans H; with_reducible exact H2_) | with_reducible exact H | (rw [hy493]; exact H) | exact H
    have Ny493 := aM_ hy493
    clear hy493
    by_cases c11 : 24 ≤ 35184372088832
    ·rw [if_pos c11] at H
     have c11b0 := eq_true c11
     have c11b1 : decide (24 ≤ 35184372088832) = true := decide_eq_true c11
     clear c11
     obtain ⟨y494, hy494⟩ : ∃ y_ : List Int, y_ = (List.replicate 24 0) := ⟨_, rfl⟩
     replace H : (if a2 < (y494.length : Int) then (if a4 = true then ((impl_copyInts.f y493).bind fun t499 => (if (rd_L4 l0_0 a2).length < 4398046511104 then (some (l0_0.set (a2 : Int).toNat (rd_L4 l0_0 a2 ++ [(⟨a3, t499⟩ : S43)]), y493)) else (none))) else (if (rd_L4 l0_0 a2).length < 4398046511104 then (some (l0_0.set (a2 : Int).toNat (rd_L4 l0_0 a2 ++ [(⟨a3, y494.set (a2 : Int).toNat (rd y493 a2)⟩ : S43)]), y493)) else (none))) else (none)) = some (r1, r2) := by first | (rw [hy494]; with_reducible exact H) | (have H2_ := (Option.bind_some _ _).symm.trans H; rw [hy494]; with_reducible exact H2_) | (have H2_ := (Option.bind_some _ _).symm.trans H; with_reducible exact H2_) | with_reducible exact H | (rw [hy494]; exact H) | exact H
     have Ny494 := aM_ hy494
     clear hy494
     by_cases c12 : a2 < (y494.length : Int)
     ·rw [if_pos c12] at H
      have c12b0 : decide (a2 < (y494.length : Int)) = true := decide_eq_true c12
      clear c12
      obtain ⟨y498, hy498⟩ : ∃ y_ : List Int, y_ = (y494.set (a2 : Int).toNat (rd y493 a2)) := ⟨_, rfl⟩
      replace H : (if a4 = true then ((impl_copyInts.f y493).bind fun t499 => (if (rd_L4 l0_0 a2).length < 4398046511104 then (some (l0_0.set (a2 : Int).toNat (rd_L4 l0_0 a2 ++ [(⟨a3, t499⟩ : S43)]), y493)) else (none))) else (if (rd_L4 l0_0 a2).length < 4398046511104 then (some (l0_0.set (a2 : Int).toNat (rd_L4 l0_0 a2 ++ [(⟨a3, y498⟩ : S43)]), y493)) else (none))) = some (r1, r2) := by first | (rw [hy498]; with_reducible exact H) | (have H2_ := (Option.bind_some _ _).symm.trans H; rw [hy498]; with_reducible exact H2_) | (have H2_ := (Option.bind_some _ _).symm.trans H; with_reducible exact H2_) | with_reducible exact H | (rw [hy498]; exact H) | exact H
      have Ny498 := aM_ hy498
      clear hy498
      by_cases c14 : a4 = true
      ·subst c14
       have H1 : ((impl_copyInts.f y493).bind fun t499 => (if (rd_L4 l0_0 a2).length < 4398046511104 then (some (l0_0.set (a2 : Int).toNat (rd_L4 l0_0 a2 ++ [(⟨a3, t499⟩ : S43)]), y493)) else (none))) = some (r1, r2) := by rw [if_pos rfl] at H; exact H
       clear H
       have H := H1
       clear H1
       replace H := Option.bind_eq_some_iff.mp H
       obtain ⟨t499, A150, H⟩ := H
       replace H : (if (rd_L4 l0_0 a2).length < 4398046511104 then (some (l0_0.set (a2 : Int).toNat (rd_L4 l0_0 a2 ++ [(⟨a3, t499⟩ : S43)]), y493)) else (none)) = some (r1, r2) := H
       have A15 := aM_ A150
       clear A150
       by_cases cP : (rd_L4 l0_0 a2).length < 4398046511104
       case neg => rw [if_neg cP] at H; exact absurd H (by simp)
       rw [if_pos cP] at H
       have LMcP := aM_ cP
       clear cP
       obtain ⟨yP, hyP⟩ : ∃ y_ : List S43, y_ = rd_L4 l0_0 a2 ++ [(⟨a3, t499⟩ : S43)] := ⟨_, rfl⟩
       replace H : (some (l0_0.set (a2 : Int).toNat yP, y493)) = some (r1, r2) := by rw [hyP]; exact H
       have NyP := aM_ hyP
       clear hyP
       simp only [Option.some.injEq, Prod.mk.injEq] at H
       obtain ⟨rfl, rfl⟩ := H
       go_enter Try.func59, Try.ntmps59
       go_wp2_with (first | (go_at_call 58; (with_reducible refine (impl_copyInts.calls _ _ l1 t489 _ ?side1 ?side2 A6.out).mono ?_); (case side1 => exact cS_ (Kd.C_below HR1.out HB.out)); (case side2 => exact HC1.out); rintro e w17 ⟨v490, rfl, ho0, hb⟩; have n0 := aM_ (Kd.R_lower ho0 (below_size (gB_ HB.out))); have n1 := aM_ (blk_below (g := g) (o := .cells #[.slice A0_0 l0_0.length c0_0] 24 (0, 0)) (by (with_reducible repeat (first | refine bN_ ?_ _ | refine bD_ ?_ | refine bA_ ?_ _)); exact BK488.out) hb); have n2 := aM_ (sT_ HB.out hb); clear BK488; clear HB; have HO491 := n0; have BK488 := n1; have HB := n2; clear n0 n1 n2; (try clear ho0); have hcz18_0 : w17.cell? ⟨g, 0, none⟩ = some (.slice A0_0 l0_0.length c0_0) := (blk_cell BK488.out 0).trans rfl; have hfz18_0 := blk_frozen BK488.out 0; have p492 : 0 ≤ (a2 : Int) := of_decide_eq_true (by first | (with_reducible assumption) | assumption); have q492 : a2 < (l0_0.length : Int) := of_decide_eq_true (by first | (with_reducible assumption) | assumption); obtain ⟨ad492, A492_0, c492_0, e492, hx492_0, hl492_0, hi492_0⟩ := at_L4 HR0_0.out a2 p492 q492; cases e492; replace hx492_0 := cB_ HB.out hx492_0; have HR492_0 := aM_ hi492_0; have HC492_0 := aM_ hl492_0; clear hi492_0 hl492_0; replace p492 := eq_true p492; replace q492 := eq_true q492; have p10 : 0 ≤ (a2 : Int) := of_decide_eq_true (by first | (with_reducible assumption) | assumption); have q10 : (a2 : Int) < ((t489.length : Int) : Int) := of_decide_eq_true (by first | (with_reducible assumption) | assumption); obtain ⟨go10, co10, eo10, gb10, gl10, cl10, HG10⟩ := Kd.R_form HO491.out (by omega); (first | cases eo10 | (injection eo10 with ea_ en_ ec_; (first | subst ea_ | (injection ea_ with ea_; subst ea_)); subst ec_; clear en_)); have GB10 := aM_ gb10; have GG10 := aM_ HG10; clear gb10 gl10 HG10; obtain ⟨hx10_0, hf10_0⟩ := Kd.R_celln 0 HO491.out (a2 : Int) p10 q10; replace p10 := eq_true p10; replace q10 := eq_true q10; obtain ⟨hy19_, hz19_⟩ := Kd.R_celln 0 HO491.out (a2 : Int) (of_decide_eq_true (by first | (with_reducible assumption) | assumption)) (of_decide_eq_true (by first | (with_reducible assumption) | assumption)); have HP19 := Kd.R_putg HO491.out (a2 : Int) ((rd_L4 l0_0 a2).length : Int)) | ((with_reducible refine gate_store (t := 3) (p := 25) rfl ?_); (try (rw [drewN_self w17]; generalize hq_ : World.drewN w17 _ = w17; have n0 := aM_ (Kd.R_at hq_ HO491.out); have n1 := aM_ (blk_at hq_ BK488.out); have n2 := aM_ (below_at hq_ HB.out); clear hq_ HO491 BK488 HB; have HO491 := n0; have BK488 := n1; have HB := n2; clear n0 n1 n2; (try (obtain ⟨hy19_, hz19_⟩ := Kd.R_celln 0 HO491.out (a2 : Int) (of_decide_eq_true (by first | (with_reducible assumption) | assumption)) (of_decide_eq_true (by first | (with_reducible assumption) | assumption)))); (try (have HP19 := Kd.R_putg HO491.out (a2 : Int) ((rd_L4 l0_0 a2).length : Int))))); refine store_event (t := 3) (p := 25) (v := ?vo_w20) (w1 := (w17.setCell ⟨go10, (a2 : Int).toNat, none⟩ (.int .i64 ((rd_L4 l0_0 a2).length : Int)))) ?hg ?ho ?hn ?hr ?_; (case ho => rfl); (case hg => rfl); (case hn => rfl); (case hr => first | (go_simp; done) | (go_simp; rfl)); intro w20 hw; have hg : w17.grownBy w20 (some go10) := (by rw [hw]; exact HP19.2); have hp_ : Kd.R (Kd.int .i64) 3 w20 w.heap.size (fun _ => True) (.slice (some ⟨go10, 0, none⟩) t489.length co10) y493 := (by rw [hw, Ny493.out]; exact HP19.1); clear HP19; have n0 := aM_ (blk_grown (g := g) (o := .cells #[.slice (some ad492) l0_0.length c0_0] 24 (0, 0)) (by (with_reducible repeat (first | refine bN_ ?_ _ | refine bD_ ?_ | refine bA_ ?_ _)); exact BK488.out) hg (Kd.R_ne HO491.out BK488.out (by decide))); have n1 := aM_ (hp_); have n2 := aM_ ((by rw [hw]; exact below_set (HB.out) GB10.out : Below w.heap.size w w20)); clear BK488; clear HO491; clear HB; have BK488 := n0; have HO491 := n1; have HB := n2; clear n0 n1 n2; clear hg hw hp_) | ((with_reducible refine gate_dst (N := 26) rfl ?_); refine Kd.R_make (Kd.int .i64) _ 3 rfl (N := 26) rfl 31 _ _ rfl 24 rfl rfl Try.underlying31 (.int .i64 0) 8 info3 rfl (by decide) (by omega) 0 (ok := fun _ => True) (okp := fun _ => True) rfl (fun _ hk => hk) trivial (by omega) (by omega) (Below.refl _ _) (Nat.le_refl _) ?_; intro v495 w21 ho22 hb hg_ hnew_; clear hg_ hnew_; (first | rw [← Ny494.out] at ho22 | (simp only [Int.reduceToNat] at ho22; rw [← Ny494.out] at ho22)); have n0 := aM_ (Kd.R_elder' (by (with_reducible repeat (first | apply rA_ | apply rN_ | apply rD_)); exact HO491.out) (Kd.R_base ho22) hb); have n1 := aM_ (Kd.R_lower (Kd.R_new' ho22 (Kd.R_lt (by (with_reducible repeat (first | apply rA_ | apply rN_ | apply rD_)); exact HO491.out))) (below_size (gB_ HB.out))); have n2 := aM_ (blk_below (g := g) (o := .cells #[.slice (some ad492) l0_0.length c0_0] 24 (0, 0)) (by (with_reducible repeat (first | refine bN_ ?_ _ | refine bD_ ?_ | refine bA_ ?_ _)); exact BK488.out) hb); have n3 := aM_ (sT_ HB.out hb); clear HO491; clear BK488; clear HB; have HO491 := n0; have HO496 := n1; have BK488 := n2; have HB := n3; clear n0 n1 n2 n3; clear hb ho22; have p497 : 0 ≤ (a2 : Int) := of_decide_eq_true (by first | (with_reducible assumption) | assumption); have q497 : a2 < (y493.length : Int) := (by have h_ : (a2 : Int) < ((t489.length : Int) : Int) := of_decide_eq_true (by first | (with_reducible assumption) | assumption); first | (have e_ := (Kd.R_reads' HO491.out).1; omega) | simpa only [Ny493.out, List.length_set] using h_); have ql497 : ((a2 : Int) < ((t489.length : Int) : Int)) = True := eq_true (of_decide_eq_true (by first | (with_reducible assumption) | assumption)); obtain ⟨ad497, e497, hx497_0⟩ := Kd.at_int (Kd.R_reads' HO491.out).2.2 a2 p497 q497; obtain rfl : (⟨go10, 0, none⟩ : Addr) = ad497 := (by injection e497); (first | simp only [add_plain] at hx497_0 | simp only [add_at] at hx497_0 | simp only [Addr.add, Nat.zero_add] at hx497_0 | skip); replace p497 := eq_true p497; replace q497 := eq_true q497; have p13 : 0 ≤ (a2 : Int) := of_decide_eq_true (by first | (with_reducible assumption) | assumption); have q13 : (a2 : Int) < ((y494.length : Int) : Int) := of_decide_eq_true (by first | (with_reducible assumption) | assumption); obtain ⟨go13, co13, eo13, gb13, gl13, cl13, HG13⟩ := Kd.R_form HO496.out (by omega); (first | cases eo13 | (injection eo13 with ea_ en_ ec_; (first | subst ea_ | (injection ea_ with ea_; subst ea_)); subst ec_; clear en_)); have GB13 := aM_ gb13; have GG13 := aM_ HG13; clear gb13 gl13 HG13; obtain ⟨hx13_0, hf13_0⟩ := Kd.R_celln 0 HO496.out (a2 : Int) p13 q13; replace p13 := eq_true p13; replace q13 := eq_true q13; have n_ := aM_ (Kd.R_mono (ok' := (fun k_ => some k_ ≠ (.slice (some ⟨go10, 0, none⟩) t489.length co10 : Value).ownBlock)) HO496.out (fun k_ hk => hk.2)); clear HO496; have HO496 := n_; clear n_; obtain ⟨hy23_, hz23_⟩ := Kd.R_celln 0 HO496.out (a2 : Int) (of_decide_eq_true (by first | (with_reducible assumption) | assumption)) (of_decide_eq_true (by first | (with_reducible assumption) | assumption)); have HP23 := Kd.R_putg HO496.out (a2 : Int) (rd y493 a2)) | ((with_reducible refine gate_store (t := 3) (p := 33) rfl ?_); (try (rw [drewN_self w21]; generalize hq_ : World.drewN w21 _ = w21; have n0 := aM_ (Kd.R_at hq_ HO491.out); have n1 := aM_ (Kd.R_at hq_ HO496.out); have n2 := aM_ (blk_at hq_ BK488.out); have n3 := aM_ (below_at hq_ HB.out); clear hq_ HO491 HO496 BK488 HB; have HO491 := n0; have HO496 := n1; have BK488 := n2; have HB := n3; clear n0 n1 n2 n3; (try (have n_ := aM_ (Kd.R_mono (ok' := (fun k_ => some k_ ≠ (.slice (some ⟨go10, 0, none⟩) t489.length co10 : Value).ownBlock)) HO496.out (fun k_ hk => hk.2)); clear HO496; have HO496 := n_; clear n_)); (try (obtain ⟨hy23_, hz23_⟩ := Kd.R_celln 0 HO496.out (a2 : Int) (of_decide_eq_true (by first | (with_reducible assumption) | assumption)) (of_decide_eq_true (by first | (with_reducible assumption) | assumption)))); (try (have HP23 := Kd.R_putg HO496.out (a2 : Int) (rd y493 a2))))); refine store_event (t := 3) (p := 33) (v := ?vo_w24) (w1 := (w21.setCell ⟨go13, (a2 : Int).toNat, none⟩ (.int .i64 (rd y493 a2)))) ?hg ?ho ?hn ?hr ?_; (case ho => rfl); (case hg => rfl); (case hn => rfl); (case hr => first | (go_simp; done) | (go_simp; rfl)); intro w24 hw; have hg : w21.grownBy w24 (some go13) := (by rw [hw]; exact HP23.2); have hp_ : Kd.R (Kd.int .i64) 3 w24 w.heap.size (fun k_ => some k_ ≠ (.slice (some ⟨go10, 0, none⟩) t489.length co10 : Value).ownBlock) (.slice (some ⟨go13, 0, none⟩) y494.length co13) y498 := (by rw [hw, Ny498.out]; exact HP23.1); clear HP23; have n0 := aM_ (blk_grown (g := g) (o := .cells #[.slice (some ad492) l0_0.length c0_0] 24 (0, 0)) (by (with_reducible repeat (first | refine bN_ ?_ _ | refine bD_ ?_ | refine bA_ ?_ _)); exact BK488.out) hg (Kd.R_ne HO496.out BK488.out (by decide))); have n1 := aM_ (Kd.R_after (v := (.slice (some ⟨go13, 0, none⟩) y494.length co13)) (v1 := (.slice (some ⟨go13, 0, none⟩) y494.length co13)) (ok := (fun _ => True)) (by (with_reducible repeat (first | apply rA_ | apply rN_ | apply rD_)); exact HO491.out) hg (.inl rfl)); have n2 := aM_ (hp_); have n3 := aM_ ((by rw [hw]; exact below_set (HB.out) GB13.out : Below w.heap.size w w24)); clear BK488; clear HO491; clear HO496; clear HB; have BK488 := n0; have HO491 := n1; have HO496 := n2; have HB := n3; clear n0 n1 n2 n3; clear hg hw hp_) | (go_at_call 58; refine calls_of_args (args' := #[.slice (some ⟨go10, 0, none⟩) y493.length co10]) (by first | (rw [show y493.length = t489.length from (Kd.R_reads' HO491.out).1.symm] <;> rfl) | rfl) ?_; (with_reducible refine (impl_copyInts.calls _ _ y493 t499 _ ?side1 ?side2 A15.out).mono ?_); (case side1 => exact cS_ (Kd.R_reads' HO491.out).2.2); (case side2 => rw [show y493.length = t489.length from (Kd.R_reads' HO491.out).1.symm]; exact (Kd.R_reads' HO491.out).2.1); rintro e w25 ⟨v500, rfl, ho0, hb⟩; have n0 := aM_ (Kd.R_elder' (by (with_reducible repeat (first | apply rA_ | apply rN_ | apply rD_)); exact HO491.out) (Kd.R_base ho0) hb); have n1 := aM_ (Kd.R_elder' (by (with_reducible repeat (first | apply rA_ | apply rN_ | apply rD_)); exact HO496.out) (Kd.R_base ho0) hb); have n2 := aM_ (Kd.R_lower (Kd.R_new' (Kd.R_new' ho0 (Kd.R_lt (by (with_reducible repeat (first | apply rA_ | apply rN_ | apply rD_)); exact HO491.out))) (Kd.R_lt (by (with_reducible repeat (first | apply rA_ | apply rN_ | apply rD_)); exact HO496.out))) (below_size (gB_ HB.out))); have n3 := aM_ (blk_below (g := g) (o := .cells #[.slice (some ad492) l0_0.length c0_0] 24 (0, 0)) (by (with_reducible repeat (first | refine bN_ ?_ _ | refine bD_ ?_ | refine bA_ ?_ _)); exact BK488.out) hb); have n4 := aM_ (sT_ HB.out hb); clear HO491; clear HO496; clear BK488; clear HB; have HO491 := n0; have HO496 := n1; have HO501 := n2; have BK488 := n3; have HB := n4; clear n0 n1 n2 n3 n4; (try clear ho0)))
       obtain ⟨AT_, cT_, rfl⟩ := Kd.R_slice HO501.out
       replace HO491 := aM_ (Kd.R_drew HO491.out)
       replace HO496 := aM_ (Kd.R_drew HO496.out)
       replace HO501 := aM_ (Kd.R_drew HO501.out)
       replace BK488 := aM_ (blk_drew BK488.out)
       replace HB := aM_ (below_drew1 HB.out)
       have hbs_ := below_size HB.out
       have HSm := aM_ (Kd.S_old hS.out HB.out)
       have hp_ : 0 ≤ a2 := of_decide_eq_true c7b0
       have hq_ : a2 < (l0_0.length : Int) := of_decide_eq_true c8b0
       obtain ⟨gM, rfl⟩ := Kd.R_head (Kd.S_R HSm.out)
       obtain ⟨oki, Ae, ce, hSe, hcM, hoki, ⟨cellsM, hBM⟩, hback⟩ := S_push HSm.out a2 hp_ hq_
       have HSe := aM_ hSe
       have BKM := aM_ hBM
       have hkM := aM_ ((blk_cell hBM (a2).toNat).symm.trans hcM)
       have HBK := aM_ hback
       have HOK := aM_ hoki
       have HGM : Aside0 (gM < w.heap.size) := ⟨((Kd.S_R HSm.out).1 gM rfl).2⟩
       have HRW : Aside0 (∀ k, (Value.slice Ae (rd_L4 l0_0 a2).length ce).ownBlock = some k → P0_0_ k ∧ k < w.heap.size) := ⟨fun k hk => (hoki k ((Kd.S_R hSe).1 k hk)).1⟩
       clear hSe hBM hcM hback hoki hp_ hq_
       refine start_ (n := 19) (S := fun w' => w'.cell? ⟨g, 0, none⟩ = some (.slice (some ⟨gM, 0, none⟩) l0_0.length c0_0) ∧ w'.cell? ⟨gM, (a2).toNat, none⟩ = some (.slice Ae (rd_L4 l0_0 a2).length ce)) (ds := [18]) #[false, false, false, false, false, false, false, false, false, false, false, false, false, false, false, false, false, false, false] (by kernel_rfl) rfl rfl ⟨(blk_cell (BK488.out) 0).trans rfl, (blk_cell (BKM.out) _).trans hkM.out⟩ (fun hHeld => ?_)
       generalize w25.drew = wR at HO491 HO496 HO501 BK488 HB HSm HSe BKM HBK hbs_ hHeld ⊢
       refine pU_ 0 (some 37) (mk_ 19 1) ?_
       refine pU_ 1 (some 38) (mk_ 19 3) ?_
       refine pU_ 2 (some 39) (mk_ 19 7) ?_
       refine pU_ 4 (some 41) (mk_ 19 23) ?_
       refine pU_ 5 (some 42) (mk_ 19 55) ?_
       refine pU_ 6 (some 43) (mk_ 19 119) ?_
       refine pU_ 7 (some 44) (mk_ 19 247) ?_
       refine pU_ 9 (some 46) (mk_ 19 759) ?_
       refine pU_ 12 (some 49) (mk_ 19 4855) ?_
       refine pU_ 13 (some 50) (mk_ 19 13047) ?_
       refine pU_ 14 (some 51) (mk_ 19 29431) ?_
       refine tK2_ 3 (some 40) (mk_ 19 29439) ?_
       refine tK2_ 8 (some 45) (mk_ 19 29695) ?_
       refine pU_ 10 (some 47) (mk_ 19 30719) ?_
       refine tK2_ 11 (some 48) (mk_ 19 32767) ?_
       refine oN_ 15 (some 52) (mk_ 19 65535) (fun K hK => ?_)
       refine value_ (w1 := ?_) (v := ?_) (by rfl) rfl ?_ ?_
       rotate_left 2
       ·go_simp
        constructor
        ·rfl
        ·rfl
       refine hK.out _ _ ⟨(blk_cell (blk_alloc BK488.out _) 0).trans rfl, (blk_cell (blk_alloc BKM.out _) _).trans hkM.out⟩ (fun hHeld => ?_)
       clear hK K
       refine norm_ (a' := ?_) ?_ ?_
       rotate_left
       ·show Act.put _ (some 52) _ = _
        simp only [pt_, pn_, sI_, s0_, s1_, i64_w, i32_w]
        rfl
       refine oN_ 16 (some 53) (mk_ 19 131071) (fun K hK => ?_)
       have hT1 := HO501.out.1
       have hT2 : ∀ k, (.slice AT_ t499.length cT_ : Value).ownBlock = some k → w.heap.size ≤ k := Kd.R_base HO501.out
       refine Kd.S_append_step k43 (w0 := w) b0 (by rfl) (.tmp 48) (.tmp 52) 44 43 (.agg #[(.int .i64 0), (.slice none 0 0)]) 32 rfl Try.underlying44 info43 rfl (by decide) (by omega) (.slice Ae (rd_L4 l0_0 a2).length ce) (rd_L4 l0_0 a2) (⟨a3, t499⟩ : S43) [.int .i64 a3, .slice AT_ t499.length cT_] (fun k_ => oki k_ ∨ (w.heap.size ≤ k_ ∧ some k_ ≠ (.slice (some ⟨go10, 0, none⟩) t489.length co10 : Value).ownBlock)) (fun k_ => some k_ = (.slice AT_ t499.length cT_ : Value).ownBlock) rfl rfl ?aP ?aK ?aF ?aO ?aB ?aS ?aL ?_
       (case aP => exact k43_mkM _ _ _ (⟨a3, t499⟩ : S43) (Kd.R_mono (Kd.R_tight rfl (Kd.R_lower HO501.out hb0w.out)) (fun _ h_ => h_)))
       (case aK => exact fun k hk => ⟨.inr ⟨hT2 k hk.symm, by have h1 := hT1 k hk.symm; first | exact h1.2.1 | exact h1.2 | exact h1.1 | exact h1.1.2 | exact h1⟩, fun e => absurd (hT2 k hk.symm) (Nat.not_le.2 (HRW.out k e.symm).2)⟩)
       (case aF => exact fun k hk => .inr ⟨Nat.le_trans hbs_ hk, fun e => Nat.not_le.2 (Kd.R_lt HO491.out k e.symm) hk⟩)
       (case aO => exact Kd.S_mono HSe.out (fun k hk => ⟨.inl hk, fun e => absurd (hT2 k e.symm) (Nat.not_le.2 (HOK.out k hk).1.2)⟩))
       (case aB => exact HB.out.mono hb0w.out)
       (case aS => exact Nat.le_trans hb0w.out hbs_)
       (case aL => have := LMcP.out; omega)
       intro vP wP ho hb hg hat
       rw [← NyP.out] at ho
       have hnb : ∀ {g t : Nat} {cs : Array Value}, wR.heap[g]? = some (.cells cs t (0, 0)) → t ≠ 43 → some g ≠ (Value.slice Ae (rd_L4 l0_0 a2).length ce).ownBlock := fun hb_ ht => Kd.S_ne HSe.out hb_ (Ne.symm ht)
       have HKP : Aside0 (Kept w wP P0_0_) := ⟨Kept.of_grown hg (Kept.of_below HB.out P0_0_) (fun k e => .inl (HRW.out k e).1)⟩
       have BK488n := aM_ (blk_grown BK488.out hg (hnb BK488.out (by decide)))
       have BKMn := aM_ (blk_grown BKM.out hg (hnb BKM.out (by decide)))
       have HO491n := aM_ (Kd.R_mono (Kd.R_grown (Kd.R_bound HO491.out) hg (fun k hk e => absurd hk.2.1 (Nat.not_le.2 (HRW.out k e.symm).2))) (fun _ hk => hk.1))
       clear hT1 hT2 hnb
       clear BK488 BKM HO491 HB HSm
       have BK488 := BK488n
       have BKM := BKMn
       have HO491 := HO491n
       clear BK488n BKMn HO491n
       obtain ⟨An, cn, rfl⟩ := Kd.S_slice ho
       have HP := aM_ ho
       have HBP : Aside0 (Below b0 w wP) := ⟨hb⟩
       have HG := aM_ hg
       clear ho hb hg hat
       refine hK.out _ _ ⟨(blk_cell (BK488.out) 0).trans rfl, (blk_cell (BKM.out) _).trans hkM.out⟩ (fun hHeld => ?_)
       clear hK K
       refine norm_ (a' := ?_) ?_ ?_
       rotate_left
       ·show Act.put _ (some 53) _ = _
        simp only [pt_, pn_, sI_, s0_, s1_, i64_w, i32_w]
        rfl
       refine pU_ 17 (some 54) (mk_ 19 262143) ?_
       refine last_ (i := 18) (N := none) #[true, true, true, true, true, true, true, true, true, true, true, true, true, true, true, true, true, true, true] rfl rfl (by kernel_rfl) (by decide) (fun K hK => ?_)
       have hsM : wP.cell? ⟨gM, (a2).toNat, none⟩ = some (.slice Ae (rd_L4 l0_0 a2).length ce) := (blk_cell BKM.out _).trans hkM.out
       have hfM := blk_frozen BKM.out (a2).toNat
       refine skip_ (w1 := ?_) (by rfl) rfl ?_ ?_
       rotate_left
       ·go_simp
        rfl
       refine hK.out _ _ ?_
       clear hK K
       refine done_ (by kernel_rfl) ?_
       have HSn := aM_ (HBK.out wP (.slice An yP.length cn) yP (fun k_ => w.heap.size ≤ k_ ∧ some k_ ≠ (.slice (some ⟨go10, 0, none⟩) t489.length co10 : Value).ownBlock) HG.out HP.out (fun k hk => ⟨fun h => Nat.not_le.2 h.2 hk.1, fun e => absurd (e ▸ hk.1) (Nat.not_le.2 HGM.out)⟩))
       replace BK488 := aM_ (blk_far (p := ⟨gM, (a2).toNat, none⟩) BK488.out (by intro e_; have h_ := BK488.out; rw [show _ = gM from e_, BKM.out] at h_; simp at h_) (.slice An yP.length cn))
       replace HO491 := aM_ (Kd.R_mono (Kd.R_far (p := ⟨gM, (a2).toNat, none⟩) (Kd.R_bound HO491.out) (fun k hk e => absurd hk.2.1 (Nat.not_le.2 (show k < w.heap.size from (show k = gM from e) ▸ HGM.out))) (.slice An yP.length cn)) (fun _ hk => hk.1))
       replace HKP := aM_ (HKP.out.setCell (p := ⟨gM, (a2).toNat, none⟩) (.inl ((Kd.S_R hS.out).1 gM rfl)) (.slice An yP.length cn))
       replace HBP : Aside0 (Below b0 w (wP.setCell ⟨gM, (a2).toNat, none⟩ (.slice An yP.length cn))) := ⟨HBP.out.setCell (Kd.S_base hS.out gM rfl) _⟩
       clear hsM hfM HG HP HBK HSe BKM hkM HOK HRW hHeld
       generalize (wP.setCell ⟨gM, (a2).toNat, none⟩ (.slice An yP.length cn)) = wQ at HSn HKP HBP BK488 HO491 ⊢
       go_wp2
       go_ret
       exact ⟨_, by first | rfl | (simp [*]; done), BK488.out, Kd.S_mono HSn.out (fun k hk => hk.elim (fun h => ⟨.inl h.1, fun e => absurd (Kd.R_base HO491.out k e.symm) (Nat.not_le.2 h.2)⟩) (fun h => ⟨.inr h.1, h.2⟩)), Kd.R_mono (Kd.R_bound HO491.out) (fun _ hk => hk.2.1), HBP.out, HKP.out⟩
      ·replace c14 := Bool.eq_false_iff.mpr c14
       subst c14
       have H1 : (if (rd_L4 l0_0 a2).length < 4398046511104 then (some (l0_0.set (a2 : Int).toNat (rd_L4 l0_0 a2 ++ [(⟨a3, y498⟩ : S43)]), y493)) else (none)) = some (r1, r2) := by rw [if_neg (show ¬ (false = true) by decide)] at H; exact H
       clear H
       have H := H1
       clear H1
       by_cases cP : (rd_L4 l0_0 a2).length < 4398046511104
       case neg => rw [if_neg cP] at H; exact absurd H (by simp)
       rw [if_pos cP] at H
       have LMcP := aM_ cP
       clear cP
       obtain ⟨yP, hyP⟩ : ∃ y_ : List S43, y_ = rd_L4 l0_0 a2 ++ [(⟨a3, y498⟩ : S43)] := ⟨_, rfl⟩
       replace H : (some (l0_0.set (a2 : Int).toNat yP, y493)) = some (r1, r2) := by rw [hyP]; exact H
       have NyP := aM_ hyP
       clear hyP
       simp only [Option.some.injEq, Prod.mk.injEq] at H
       obtain ⟨rfl, rfl⟩ := H
       go_enter Try.func59, Try.ntmps59
       go_wp2_with (first | (go_at_call 58; (with_reducible refine (impl_copyInts.calls _ _ l1 t489 _ ?side1 ?side2 A6.out).mono ?_); (case side1 => exact cS_ (Kd.C_below HR1.out HB.out)); (case side2 => exact HC1.out); rintro e w27 ⟨v490, rfl, ho0, hb⟩; have n0 := aM_ (Kd.R_lower ho0 (below_size (gB_ HB.out))); have n1 := aM_ (blk_below (g := g) (o := .cells #[.slice A0_0 l0_0.length c0_0] 24 (0, 0)) (by (with_reducible repeat (first | refine bN_ ?_ _ | refine bD_ ?_ | refine bA_ ?_ _)); exact BK488.out) hb); have n2 := aM_ (sT_ HB.out hb); clear BK488; clear HB; have HO491 := n0; have BK488 := n1; have HB := n2; clear n0 n1 n2; (try clear ho0); have hcz28_0 : w27.cell? ⟨g, 0, none⟩ = some (.slice A0_0 l0_0.length c0_0) := (blk_cell BK488.out 0).trans rfl; have hfz28_0 := blk_frozen BK488.out 0; have p492 : 0 ≤ (a2 : Int) := of_decide_eq_true (by first | (with_reducible assumption) | assumption); have q492 : a2 < (l0_0.length : Int) := of_decide_eq_true (by first | (with_reducible assumption) | assumption); obtain ⟨ad492, A492_0, c492_0, e492, hx492_0, hl492_0, hi492_0⟩ := at_L4 HR0_0.out a2 p492 q492; cases e492; replace hx492_0 := cB_ HB.out hx492_0; have HR492_0 := aM_ hi492_0; have HC492_0 := aM_ hl492_0; clear hi492_0 hl492_0; replace p492 := eq_true p492; replace q492 := eq_true q492; have p10 : 0 ≤ (a2 : Int) := of_decide_eq_true (by first | (with_reducible assumption) | assumption); have q10 : (a2 : Int) < ((t489.length : Int) : Int) := of_decide_eq_true (by first | (with_reducible assumption) | assumption); obtain ⟨go10, co10, eo10, gb10, gl10, cl10, HG10⟩ := Kd.R_form HO491.out (by omega); (first | cases eo10 | (injection eo10 with ea_ en_ ec_; (first | subst ea_ | (injection ea_ with ea_; subst ea_)); subst ec_; clear en_)); have GB10 := aM_ gb10; have GG10 := aM_ HG10; clear gb10 gl10 HG10; obtain ⟨hx10_0, hf10_0⟩ := Kd.R_celln 0 HO491.out (a2 : Int) p10 q10; replace p10 := eq_true p10; replace q10 := eq_true q10; obtain ⟨hy29_, hz29_⟩ := Kd.R_celln 0 HO491.out (a2 : Int) (of_decide_eq_true (by first | (with_reducible assumption) | assumption)) (of_decide_eq_true (by first | (with_reducible assumption) | assumption)); have HP29 := Kd.R_putg HO491.out (a2 : Int) ((rd_L4 l0_0 a2).length : Int)) | ((with_reducible refine gate_store (t := 3) (p := 25) rfl ?_); (try (rw [drewN_self w27]; generalize hq_ : World.drewN w27 _ = w27; have n0 := aM_ (Kd.R_at hq_ HO491.out); have n1 := aM_ (blk_at hq_ BK488.out); have n2 := aM_ (below_at hq_ HB.out); clear hq_ HO491 BK488 HB; have HO491 := n0; have BK488 := n1; have HB := n2; clear n0 n1 n2; (try (obtain ⟨hy29_, hz29_⟩ := Kd.R_celln 0 HO491.out (a2 : Int) (of_decide_eq_true (by first | (with_reducible assumption) | assumption)) (of_decide_eq_true (by first | (with_reducible assumption) | assumption)))); (try (have HP29 := Kd.R_putg HO491.out (a2 : Int) ((rd_L4 l0_0 a2).length : Int))))); refine store_event (t := 3) (p := 25) (v := ?vo_w30) (w1 := (w27.setCell ⟨go10, (a2 : Int).toNat, none⟩ (.int .i64 ((rd_L4 l0_0 a2).length : Int)))) ?hg ?ho ?hn ?hr ?_; (case ho => rfl); (case hg => rfl); (case hn => rfl); (case hr => first | (go_simp; done) | (go_simp; rfl)); intro w30 hw; have hg : w27.grownBy w30 (some go10) := (by rw [hw]; exact HP29.2); have hp_ : Kd.R (Kd.int .i64) 3 w30 w.heap.size (fun _ => True) (.slice (some ⟨go10, 0, none⟩) t489.length co10) y493 := (by rw [hw, Ny493.out]; exact HP29.1); clear HP29; have n0 := aM_ (blk_grown (g := g) (o := .cells #[.slice (some ad492) l0_0.length c0_0] 24 (0, 0)) (by (with_reducible repeat (first | refine bN_ ?_ _ | refine bD_ ?_ | refine bA_ ?_ _)); exact BK488.out) hg (Kd.R_ne HO491.out BK488.out (by decide))); have n1 := aM_ (hp_); have n2 := aM_ ((by rw [hw]; exact below_set (HB.out) GB10.out : Below w.heap.size w w30)); clear BK488; clear HO491; clear HB; have BK488 := n0; have HO491 := n1; have HB := n2; clear n0 n1 n2; clear hg hw hp_) | ((with_reducible refine gate_dst (N := 26) rfl ?_); refine Kd.R_make (Kd.int .i64) _ 3 rfl (N := 26) rfl 31 _ _ rfl 24 rfl rfl Try.underlying31 (.int .i64 0) 8 info3 rfl (by decide) (by omega) 0 (ok := fun _ => True) (okp := fun _ => True) rfl (fun _ hk => hk) trivial (by omega) (by omega) (Below.refl _ _) (Nat.le_refl _) ?_; intro v495 w31 ho32 hb hg_ hnew_; clear hg_ hnew_; (first | rw [← Ny494.out] at ho32 | (simp only [Int.reduceToNat] at ho32; rw [← Ny494.out] at ho32)); have n0 := aM_ (Kd.R_elder' (by (with_reducible repeat (first | apply rA_ | apply rN_ | apply rD_)); exact HO491.out) (Kd.R_base ho32) hb); have n1 := aM_ (Kd.R_lower (Kd.R_new' ho32 (Kd.R_lt (by (with_reducible repeat (first | apply rA_ | apply rN_ | apply rD_)); exact HO491.out))) (below_size (gB_ HB.out))); have n2 := aM_ (blk_below (g := g) (o := .cells #[.slice (some ad492) l0_0.length c0_0] 24 (0, 0)) (by (with_reducible repeat (first | refine bN_ ?_ _ | refine bD_ ?_ | refine bA_ ?_ _)); exact BK488.out) hb); have n3 := aM_ (sT_ HB.out hb); clear HO491; clear BK488; clear HB; have HO491 := n0; have HO496 := n1; have BK488 := n2; have HB := n3; clear n0 n1 n2 n3; clear hb ho32; have p497 : 0 ≤ (a2 : Int) := of_decide_eq_true (by first | (with_reducible assumption) | assumption); have q497 : a2 < (y493.length : Int) := (by have h_ : (a2 : Int) < ((t489.length : Int) : Int) := of_decide_eq_true (by first | (with_reducible assumption) | assumption); first | (have e_ := (Kd.R_reads' HO491.out).1; omega) | simpa only [Ny493.out, List.length_set] using h_); have ql497 : ((a2 : Int) < ((t489.length : Int) : Int)) = True := eq_true (of_decide_eq_true (by first | (with_reducible assumption) | assumption)); obtain ⟨ad497, e497, hx497_0⟩ := Kd.at_int (Kd.R_reads' HO491.out).2.2 a2 p497 q497; obtain rfl : (⟨go10, 0, none⟩ : Addr) = ad497 := (by injection e497); (first | simp only [add_plain] at hx497_0 | simp only [add_at] at hx497_0 | simp only [Addr.add, Nat.zero_add] at hx497_0 | skip); replace p497 := eq_true p497; replace q497 := eq_true q497; have p13 : 0 ≤ (a2 : Int) := of_decide_eq_true (by first | (with_reducible assumption) | assumption); have q13 : (a2 : Int) < ((y494.length : Int) : Int) := of_decide_eq_true (by first | (with_reducible assumption) | assumption); obtain ⟨go13, co13, eo13, gb13, gl13, cl13, HG13⟩ := Kd.R_form HO496.out (by omega); (first | cases eo13 | (injection eo13 with ea_ en_ ec_; (first | subst ea_ | (injection ea_ with ea_; subst ea_)); subst ec_; clear en_)); have GB13 := aM_ gb13; have GG13 := aM_ HG13; clear gb13 gl13 HG13; obtain ⟨hx13_0, hf13_0⟩ := Kd.R_celln 0 HO496.out (a2 : Int) p13 q13; replace p13 := eq_true p13; replace q13 := eq_true q13; have n_ := aM_ (Kd.R_mono (ok' := (fun k_ => some k_ ≠ (.slice (some ⟨go10, 0, none⟩) t489.length co10 : Value).ownBlock)) HO496.out (fun k_ hk => hk.2)); clear HO496; have HO496 := n_; clear n_; obtain ⟨hy33_, hz33_⟩ := Kd.R_celln 0 HO496.out (a2 : Int) (of_decide_eq_true (by first | (with_reducible assumption) | assumption)) (of_decide_eq_true (by first | (with_reducible assumption) | assumption)); have HP33 := Kd.R_putg HO496.out (a2 : Int) (rd y493 a2)) | ((with_reducible refine gate_store (t := 3) (p := 33) rfl ?_); (try (rw [drewN_self w31]; generalize hq_ : World.drewN w31 _ = w31; have n0 := aM_ (Kd.R_at hq_ HO491.out); have n1 := aM_ (Kd.R_at hq_ HO496.out); have n2 := aM_ (blk_at hq_ BK488.out); have n3 := aM_ (below_at hq_ HB.out); clear hq_ HO491 HO496 BK488 HB; have HO491 := n0; have HO496 := n1; have BK488 := n2; have HB := n3; clear n0 n1 n2 n3; (try (have n_ := aM_ (Kd.R_mono (ok' := (fun k_ => some k_ ≠ (.slice (some ⟨go10, 0, none⟩) t489.length co10 : Value).ownBlock)) HO496.out (fun k_ hk => hk.2)); clear HO496; have HO496 := n_; clear n_)); (try (obtain ⟨hy33_, hz33_⟩ := Kd.R_celln 0 HO496.out (a2 : Int) (of_decide_eq_true (by first | (with_reducible assumption) | assumption)) (of_decide_eq_true (by first | (with_reducible assumption) | assumption)))); (try (have HP33 := Kd.R_putg HO496.out (a2 : Int) (rd y493 a2))))); refine store_event (t := 3) (p := 33) (v := ?vo_w34) (w1 := (w31.setCell ⟨go13, (a2 : Int).toNat, none⟩ (.int .i64 (rd y493 a2)))) ?hg ?ho ?hn ?hr ?_; (case ho => rfl); (case hg => rfl); (case hn => rfl); (case hr => first | (go_simp; done) | (go_simp; rfl)); intro w34 hw; have hg : w31.grownBy w34 (some go13) := (by rw [hw]; exact HP33.2); have hp_ : Kd.R (Kd.int .i64) 3 w34 w.heap.size (fun k_ => some k_ ≠ (.slice (some ⟨go10, 0, none⟩) t489.length co10 : Value).ownBlock) (.slice (some ⟨go13, 0, none⟩) y494.length co13) y498 := (by rw [hw, Ny498.out]; exact HP33.1); clear HP33; have n0 := aM_ (blk_grown (g := g) (o := .cells #[.slice (some ad492) l0_0.length c0_0] 24 (0, 0)) (by (with_reducible repeat (first | refine bN_ ?_ _ | refine bD_ ?_ | refine bA_ ?_ _)); exact BK488.out) hg (Kd.R_ne HO496.out BK488.out (by decide))); have n1 := aM_ (Kd.R_after (v := (.slice (some ⟨go13, 0, none⟩) y494.length co13)) (v1 := (.slice (some ⟨go13, 0, none⟩) y494.length co13)) (ok := (fun _ => True)) (by (with_reducible repeat (first | apply rA_ | apply rN_ | apply rD_)); exact HO491.out) hg (.inl rfl)); have n2 := aM_ (hp_); have n3 := aM_ ((by rw [hw]; exact below_set (HB.out) GB13.out : Below w.heap.size w w34)); clear BK488; clear HO491; clear HO496; clear HB; have BK488 := n0; have HO491 := n1; have HO496 := n2; have HB := n3; clear n0 n1 n2 n3; clear hg hw hp_))
       replace HO491 := aM_ (Kd.R_drew HO491.out)
       replace HO496 := aM_ (Kd.R_drew HO496.out)
       replace BK488 := aM_ (blk_drew BK488.out)
       replace HB := aM_ (below_drew1 HB.out)
       have hbs_ := below_size HB.out
       have HSm := aM_ (Kd.S_old hS.out HB.out)
       have hp_ : 0 ≤ a2 := of_decide_eq_true c7b0
       have hq_ : a2 < (l0_0.length : Int) := of_decide_eq_true c8b0
       obtain ⟨gM, rfl⟩ := Kd.R_head (Kd.S_R HSm.out)
       obtain ⟨oki, Ae, ce, hSe, hcM, hoki, ⟨cellsM, hBM⟩, hback⟩ := S_push HSm.out a2 hp_ hq_
       have HSe := aM_ hSe
       have BKM := aM_ hBM
       have hkM := aM_ ((blk_cell hBM (a2).toNat).symm.trans hcM)
       have HBK := aM_ hback
       have HOK := aM_ hoki
       have HGM : Aside0 (gM < w.heap.size) := ⟨((Kd.S_R HSm.out).1 gM rfl).2⟩
       have HRW : Aside0 (∀ k, (Value.slice Ae (rd_L4 l0_0 a2).length ce).ownBlock = some k → P0_0_ k ∧ k < w.heap.size) := ⟨fun k hk => (hoki k ((Kd.S_R hSe).1 k hk)).1⟩
       clear hSe hBM hcM hback hoki hp_ hq_
       refine start_ (n := 19) (S := fun w' => w'.cell? ⟨g, 0, none⟩ = some (.slice (some ⟨gM, 0, none⟩) l0_0.length c0_0) ∧ w'.cell? ⟨gM, (a2).toNat, none⟩ = some (.slice Ae (rd_L4 l0_0 a2).length ce)) (ds := [18]) #[false, false, false, false, false, false, false, false, false, false, false, false, false, false, false, false, false, false, false] (by kernel_rfl) rfl rfl ⟨(blk_cell (BK488.out) 0).trans rfl, (blk_cell (BKM.out) _).trans hkM.out⟩ (fun hHeld => ?_)
       generalize w34.drew = wR at HO491 HO496 BK488 HB HSm HSe BKM HBK hbs_ hHeld ⊢
       refine pU_ 0 (some 37) (mk_ 19 1) ?_
       refine pU_ 1 (some 38) (mk_ 19 3) ?_
       refine pU_ 2 (some 39) (mk_ 19 7) ?_
       refine pU_ 4 (some 41) (mk_ 19 23) ?_
       refine pU_ 5 (some 42) (mk_ 19 55) ?_
       refine pU_ 6 (some 43) (mk_ 19 119) ?_
       refine pU_ 7 (some 44) (mk_ 19 247) ?_
       refine pU_ 9 (some 46) (mk_ 19 759) ?_
       refine pU_ 12 (some 49) (mk_ 19 4855) ?_
       refine pU_ 13 (some 50) (mk_ 19 13047) ?_
       refine pU_ 14 (some 51) (mk_ 19 29431) ?_
       refine tK2_ 3 (some 40) (mk_ 19 29439) ?_
       refine tK2_ 8 (some 45) (mk_ 19 29695) ?_
       refine pU_ 10 (some 47) (mk_ 19 30719) ?_
       refine tK2_ 11 (some 48) (mk_ 19 32767) ?_
       refine oN_ 15 (some 52) (mk_ 19 65535) (fun K hK => ?_)
       refine value_ (w1 := ?_) (v := ?_) (by rfl) rfl ?_ ?_
       rotate_left 2
       ·go_simp
        constructor
        ·rfl
        ·rfl
       refine hK.out _ _ ⟨(blk_cell (blk_alloc BK488.out _) 0).trans rfl, (blk_cell (blk_alloc BKM.out _) _).trans hkM.out⟩ (fun hHeld => ?_)
       clear hK K
       refine norm_ (a' := ?_) ?_ ?_
       rotate_left
       ·show Act.put _ (some 52) _ = _
        simp only [pt_, pn_, sI_, s0_, s1_, i64_w, i32_w]
        rfl
       refine oN_ 16 (some 53) (mk_ 19 131071) (fun K hK => ?_)
       have hT1 := HO496.out.1
       have hT2 : ∀ k, (.slice (some ⟨go13, 0, none⟩) y494.length co13 : Value).ownBlock = some k → w.heap.size ≤ k := Kd.R_base HO496.out
       refine Kd.S_append_step k43 (w0 := w) b0 (by rfl) (.tmp 48) (.tmp 52) 44 43 (.agg #[(.int .i64 0), (.slice none 0 0)]) 32 rfl Try.underlying44 info43 rfl (by decide) (by omega) (.slice Ae (rd_L4 l0_0 a2).length ce) (rd_L4 l0_0 a2) (⟨a3, y498⟩ : S43) [.int .i64 a3, .slice (some ⟨go13, 0, none⟩) y494.length co13] (fun k_ => oki k_ ∨ (w.heap.size ≤ k_ ∧ some k_ ≠ (.slice (some ⟨go10, 0, none⟩) t489.length co10 : Value).ownBlock)) (fun k_ => some k_ = (.slice (some ⟨go13, 0, none⟩) y494.length co13 : Value).ownBlock) rfl rfl ?aP ?aK ?aF ?aO ?aB ?aS ?aL ?_
       (case aP => exact k43_mkM _ _ _ (⟨a3, y498⟩ : S43) (Kd.R_mono (Kd.R_tight rfl (Kd.R_lower HO496.out hb0w.out)) (fun _ h_ => h_)))
       (case aK => exact fun k hk => ⟨.inr ⟨hT2 k hk.symm, by have h1 := hT1 k hk.symm; first | exact h1.2.1 | exact h1.2 | exact h1.1 | exact h1.1.2 | exact h1⟩, fun e => absurd (hT2 k hk.symm) (Nat.not_le.2 (HRW.out k e.symm).2)⟩)
       (case aF => exact fun k hk => .inr ⟨Nat.le_trans hbs_ hk, fun e => Nat.not_le.2 (Kd.R_lt HO491.out k e.symm) hk⟩)
       (case aO => exact Kd.S_mono HSe.out (fun k hk => ⟨.inl hk, fun e => absurd (hT2 k e.symm) (Nat.not_le.2 (HOK.out k hk).1.2)⟩))
       (case aB => exact HB.out.mono hb0w.out)
       (case aS => exact Nat.le_trans hb0w.out hbs_)
       (case aL => have := LMcP.out; omega)
       intro vP wP ho hb hg hat
       rw [← NyP.out] at ho
       have hnb : ∀ {g t : Nat} {cs : Array Value}, wR.heap[g]? = some (.cells cs t (0, 0)) → t ≠ 43 → some g ≠ (Value.slice Ae (rd_L4 l0_0 a2).length ce).ownBlock := fun hb_ ht => Kd.S_ne HSe.out hb_ (Ne.symm ht)
       have HKP : Aside0 (Kept w wP P0_0_) := ⟨Kept.of_grown hg (Kept.of_below HB.out P0_0_) (fun k e => .inl (HRW.out k e).1)⟩
       have BK488n := aM_ (blk_grown BK488.out hg (hnb BK488.out (by decide)))
       have BKMn := aM_ (blk_grown BKM.out hg (hnb BKM.out (by decide)))
       have HO491n := aM_ (Kd.R_mono (Kd.R_grown (Kd.R_bound HO491.out) hg (fun k hk e => absurd hk.2.1 (Nat.not_le.2 (HRW.out k e.symm).2))) (fun _ hk => hk.1))
       clear hT1 hT2 hnb
       clear BK488 BKM HO491 HB HSm
       have BK488 := BK488n
       have BKM := BKMn
       have HO491 := HO491n
       clear BK488n BKMn HO491n
       obtain ⟨An, cn, rfl⟩ := Kd.S_slice ho
       have HP := aM_ ho
       have HBP : Aside0 (Below b0 w wP) := ⟨hb⟩
       have HG := aM_ hg
       clear ho hb hg hat
       refine hK.out _ _ ⟨(blk_cell (BK488.out) 0).trans rfl, (blk_cell (BKM.out) _).trans hkM.out⟩ (fun hHeld => ?_)
       clear hK K
       refine norm_ (a' := ?_) ?_ ?_
       rotate_left
       ·show Act.put _ (some 53) _ = _
        simp only [pt_, pn_, sI_, s0_, s1_, i64_w, i32_w]
        rfl
       refine pU_ 17 (some 54) (mk_ 19 262143) ?_
       refine last_ (i := 18) (N := none) #[true, true, true, true, true, true, true, true, true, true, true, true, true, true, true, true, true, true, true] rfl rfl (by kernel_rfl) (by decide) (fun K hK => ?_)
       have hsM : wP.cell? ⟨gM, (a2).toNat, none⟩ = some (.slice Ae (rd_L4 l0_0 a2).length ce) := (blk_cell BKM.out _).trans hkM.out
       have hfM := blk_frozen BKM.out (a2).toNat
       refine skip_ (w1 := ?_) (by rfl) rfl ?_ ?_
       rotate_left
       ·go_simp
        rfl
       refine hK.out _ _ ?_
       clear hK K
       refine done_ (by kernel_rfl) ?_
       have HSn := aM_ (HBK.out wP (.slice An yP.length cn) yP (fun k_ => w.heap.size ≤ k_ ∧ some k_ ≠ (.slice (some ⟨go10, 0, none⟩) t489.length co10 : Value).ownBlock) HG.out HP.out (fun k hk => ⟨fun h => Nat.not_le.2 h.2 hk.1, fun e => absurd (e ▸ hk.1) (Nat.not_le.2 HGM.out)⟩))
       replace BK488 := aM_ (blk_far (p := ⟨gM, (a2).toNat, none⟩) BK488.out (by intro e_; have h_ := BK488.out; rw [show _ = gM from e_, BKM.out] at h_; simp at h_) (.slice An yP.length cn))
       replace HO491 := aM_ (Kd.R_mono (Kd.R_far (p := ⟨gM, (a2).toNat, none⟩) (Kd.R_bound HO491.out) (fun k hk e => absurd hk.2.1 (Nat.not_le.2 (show k < w.heap.size from (show k = gM from e) ▸ HGM.out))) (.slice An yP.length cn)) (fun _ hk => hk.1))
       replace HKP := aM_ (HKP.out.setCell (p := ⟨gM, (a2).toNat, none⟩) (.inl ((Kd.S_R hS.out).1 gM rfl)) (.slice An yP.length cn))
       replace HBP : Aside0 (Below b0 w (wP.setCell ⟨gM, (a2).toNat, none⟩ (.slice An yP.length cn))) := ⟨HBP.out.setCell (Kd.S_base hS.out gM rfl) _⟩
       clear hsM hfM HG HP HBK HSe BKM hkM HOK HRW hHeld
       generalize (wP.setCell ⟨gM, (a2).toNat, none⟩ (.slice An yP.length cn)) = wQ at HSn HKP HBP BK488 HO491 ⊢
       go_wp2
       go_ret
       exact ⟨_, by first | rfl | (simp [*]; done), BK488.out, Kd.S_mono HSn.out (fun k hk => hk.elim (fun h => ⟨.inl h.1, fun e => absurd (Kd.R_base HO491.out k e.symm) (Nat.not_le.2 h.2)⟩) (fun h => ⟨.inr h.1, h.2⟩)), Kd.R_mono (Kd.R_bound HO491.out) (fun _ hk => hk.2.1), HBP.out, HKP.out⟩
     ·rw [if_neg c12] at H
      exact absurd H (by simp)
    ·rw [if_neg c11] at H
     exact absurd H (by simp)
   ·rw [if_neg c9] at H
    exact absurd H (by simp)
  ·rw [if_neg c8] at H
   exact absurd H (by simp)
 ·rw [if_neg c7] at H
  exact absurd H (by simp)
def impl_Swap.j0 : Nat → List Int → Int → Int → Bool → List (List (S43)) → Option ((List (List (S43))) × List Int × Int)
  | 0, _, _, _, _, _ => none
  | k + 1, x1, x2, x3, x35, x508000 => if x35 = true then ((impl_copyInts.f x1).bind fun t512 => (some (x508000, t512, 0))) else ((impl_Memory_load.f k x508000 x1 x2 0 true).bind fun bt515 => ((impl_Memory_store.f x508000 bt515.2 x2 x3 true).bind fun bt519 => (some (bt519.1, bt519.2, bt515.1))))
def impl_Swap.f (k : Nat) (l0_0 : List (List (S43))) (l1 : List Int) (a2 : Int) (a3 : Int) : Option ((List (List (S43))) × List Int × Int) := (impl_copyMemory.f k l0_0).bind fun t504 => ((impl_MemoryOk.f k l0_0).bind fun t508 => (if t508 = true then ((impl_ViewOk.f k l0_0 l1).bind fun t509 => (if t509 = true then ((impl_isCell.f a2).bind fun t510 => (if t510 = true then ((impl_Memory_hasRoom.f l0_0 a2).bind fun t511 => (impl_Swap.j0 k l1 a2 a3 (!t511) t504)) else (impl_Swap.j0 k l1 a2 a3 true t504))) else (impl_Swap.j0 k l1 a2 a3 true t504))) else (impl_Swap.j0 k l1 a2 a3 true t504)))
set_option maxHeartbeats 8000000 in
set_option maxRecDepth 100000 in
theorem impl_Swap.callsS (k : Nat) (A0_0 : Option Addr) (c0_0 : Nat) (l0_0 : List (List (S43))) (A1 : Option Addr) (c1 : Nat) (l1 : List Int) (a2 : Int) (a3 : Int) (r1 : List (List (S43))) (r2 : List Int) (r3 : Int) (w : World) (hr0_0 : Kd.C (Kd.slice 43 k43) w A0_0 l0_0.length l0_0) (hc0_0 : l0_0.length ≤ c0_0) (hr1 : Kd.C (Kd.int .i64) w A1 l1.length l1) (hc1 : l1.length ≤ c1) (h : impl_Swap.f k l0_0 l1 a2 a3 = some (r1, r2, r3)) :
  Calls Try.prog 45 #[.agg #[.slice A0_0 l0_0.length c0_0], .slice A1 l1.length c1, .int .i64 a2, .int .i64 a3] w fun e w' => ∃ v0_ v1_ : Value, e = .returned (.tuple #[.agg #[v0_], v1_, .int .i64 r3]) ∧ Kd.S (sslice 43 k43) 44 w' w.heap.size (fun k_ => some k_ ≠ (v1_ : Value).ownBlock) v0_ r1 ∧ Kd.R (Kd.int .i64) 3 w' w.heap.size (fun _ => True) v1_ r2 ∧ Below w.heap.size w w' := by
 have hu24 := Try.underlying24
 have HR0_0 := Aside0.mk hr0_0
 have HC0_0 := Aside0.mk hc0_0
 clear hr0_0 hc0_0
 have HR1 := Aside0.mk hr1
 have HC1 := Aside0.mk hc1
 clear hr1 hc1
 have HB := Aside0.mk (Below.refl w.heap.size w)
 have H : ((impl_copyMemory.f k l0_0).bind fun t504 => ((impl_MemoryOk.f k l0_0).bind fun t508 => (if t508 = true then ((impl_ViewOk.f k l0_0 l1).bind fun t509 => (if t509 = true then ((impl_isCell.f a2).bind fun t510 => (if t510 = true then ((impl_Memory_hasRoom.f l0_0 a2).bind fun t511 => (impl_Swap.j0 k l1 a2 a3 (!t511) t504)) else (impl_Swap.j0 k l1 a2 a3 true t504))) else (impl_Swap.j0 k l1 a2 a3 true t504))) else (impl_Swap.j0 k l1 a2 a3 true t504)))) = some (r1, r2, r3) := h
 clear h
 replace H := Option.bind_eq_some_iff.mp H
 obtain ⟨t504, A50, H⟩ := H
 replace H : ((impl_MemoryOk.f k l0_0).bind fun t508 => (if t508 = true then ((impl_ViewOk.f k l0_0 l1).bind fun t509 => (if t509 = true then ((impl_isCell.f a2).bind fun t510 => (if t510 = true then ((impl_Memory_hasRoom.f l0_0 a2).bind fun t511 => (impl_Swap.j0 k l1 a2 a3 (!t511) t504)) else (impl_Swap.j0 k l1 a2 a3 true t504))) else (impl_Swap.j0 k l1 a2 a3 true t504))) else (impl_Swap.j0 k l1 a2 a3 true t504))) = some (r1, r2, r3) := H
 have A5 := Aside0.mk A50
 clear A50
 have HC6 := Aside0.mk H
 clear H
 go_enter Try.func45, Try.ntmps45
 go_upto_region 2 with (first | ((with_reducible refine gate_dst (N := 4) rfl ?_); refine bX_ 4 (cs := #[.slice A0_0 l0_0.length c0_0]) (t := 24) ?_; intro gb502 hg w7 hbox hb; have n0_ := Aside0.mk (sT_ HB.out hb); have n1_ := Aside0.mk (hbox); have n2_ := Aside0.mk (sZ_ hg HB.out); have n3_ := Aside0.mk (sZ_ hg HB.out); clear HB; have HB := n0_; have BK502 := n1_; have GW502 := n2_; have GE502 := n3_; clear n0_ n1_ n2_ n3_; clear hb hbox hg) | ((with_reducible refine gate_dst (N := 8) rfl ?_); refine bX_ 8 (cs := #[.slice none 0 0]) (t := 24) ?_; intro gb503 hg w8 hbox hb; have n0_ := Aside0.mk (nB_ BK502.out hb); have n1_ := Aside0.mk (sT_ HB.out hb); have n2_ := Aside0.mk (hbox); have n3_ := Aside0.mk (sZ_ hg HB.out); have n4_ := Aside0.mk (sZ_ hg HB.out); have n5_ := Aside0.mk (nL_ hg BK502.out); have n6_ := Aside0.mk (nG_ hg BK502.out); clear BK502; clear HB; have BK502 := n0_; have HB := n1_; have BK503 := n2_; have GW503 := n3_; have GE503 := n4_; have NB502_503 := n5_; have NB503_502 := n6_; clear n0_ n1_ n2_ n3_ n4_ n5_ n6_; clear hb hbox hg; have hnb9 := NB502_503.out; have hnc9 := NB503_502.out; have hcz10_0 : w8.cell? ⟨gb502, 0, none⟩ = some (.slice A0_0 l0_0.length c0_0) := (blk_cell BK502.out 0).trans rfl; have hfz10_0 := blk_frozen BK502.out 0) | ((with_reducible refine gate_callee (f := 55) rfl ?_); refine gL_ (some 16) Try.func55 #[.agg #[.slice A0_0 l0_0.length c0_0]] ?_; (with_reducible refine (impl_copyMemory.calls k _ _ l0_0 t504 _ ?side1 ?side2 A5.out).mono ?_); (case side1 => exact cS_ (Kd.C_below HR0_0.out HB.out)); (case side2 => exact HC0_0.out); rintro e w11 ⟨v505, rfl, ho0, hb⟩; refine ⟨_, rfl, ?_⟩; have n0_ := Aside0.mk (Kd.S_lower ho0 (below_size (gB_ HB.out))); have n1_ := Aside0.mk (nB_ BK502.out hb); have n2_ := Aside0.mk (nB_ BK503.out hb); have n3_ := Aside0.mk (sT_ HB.out hb); clear BK502; clear BK503; clear HB; have HO506 := n0_; have BK502 := n1_; have BK503 := n2_; have HB := n3_; clear n0_ n1_ n2_ n3_; (try clear hb); (try clear hb2); (try clear hk); (try clear hi); (try clear ho0)) | ((with_reducible refine gate_dst (N := 11) rfl ?_); refine bX_ 11 (cs := #[.slice none 0 0]) (t := 24) ?_; intro gb507 hg w12 hbox hb; have n0_ := Aside0.mk (bS_ HO506.out hb); have n1_ := Aside0.mk (nB_ BK502.out hb); have n2_ := Aside0.mk (nB_ BK503.out hb); have n3_ := Aside0.mk (sT_ HB.out hb); have n4_ := Aside0.mk (hbox); have n5_ := Aside0.mk (sZ_ hg HB.out); have n6_ := Aside0.mk (sZ_ hg HB.out); have n7_ := Aside0.mk (nL_ hg BK502.out); have n8_ := Aside0.mk (nG_ hg BK502.out); have n9_ := Aside0.mk (nL_ hg BK503.out); have n10_ := Aside0.mk (nG_ hg BK503.out); clear HO506; clear BK502; clear BK503; clear HB; have HO506 := n0_; have BK502 := n1_; have BK503 := n2_; have HB := n3_; have BK507 := n4_; have GW507 := n5_; have GE507 := n6_; have NB502_507 := n7_; have NB507_502 := n8_; have NB503_507 := n9_; have NB507_503 := n10_; clear n0_ n1_ n2_ n3_ n4_ n5_ n6_ n7_ n8_ n9_ n10_; clear hb hbox hg; obtain ⟨Ao13, co13, eo13⟩ := Kd.S_slice HO506.out; subst eo13; have hnb14 := NB507_502.out; have hnc14 := NB502_507.out; have hnb15 := NB507_503.out; have hnc15 := NB503_507.out; have hcz16_0 : w12.cell? ⟨gb507, 0, none⟩ = some (.slice none 0 0) := (blk_cell BK507.out 0).trans rfl; have hfz16_0 := blk_frozen BK507.out 0))
 (try simp only [Act.put, List.setIfInBounds_toArray, List.set_cons_zero, List.set_cons_succ])
 go_cut [35] (fun v35 wc => ∃ (kq : Nat) (x35_5 : Bool), v35 = .bool x35_5 ∧ Aside0 (impl_Swap.j0 kq l1 a2 a3 x35_5 t504 = some (r1, r2, r3)) ∧ Aside0 (kq ≤ k) ∧ Aside0 (Kd.S (sslice 43 k43) 44 wc w.heap.size (fun _ => True) (.slice Ao13 t504.length co13) t504) ∧ Aside0 (wc.heap[gb502]? = some (.cells #[(.slice A0_0 l0_0.length c0_0)] 24 (0, 0))) ∧ Aside0 (wc.heap[gb503]? = some (.cells #[(.slice none 0 0)] 24 (0, 0))) ∧ Aside0 (wc.heap[gb507]? = some (.cells #[(.slice Ao13 t504.length co13)] 24 (0, 0))) ∧ Aside0 (Below w.heap.size w wc))
 case first =>
  have H := HC6.out
  clear HC6
  replace H := Option.bind_eq_some_iff.mp H
  obtain ⟨t508, A170, H⟩ := H
  replace H : (if t508 = true then ((impl_ViewOk.f k l0_0 l1).bind fun t509 => (if t509 = true then ((impl_isCell.f a2).bind fun t510 => (if t510 = true then ((impl_Memory_hasRoom.f l0_0 a2).bind fun t511 => (impl_Swap.j0 k l1 a2 a3 (!t511) t504)) else (impl_Swap.j0 k l1 a2 a3 true t504))) else (impl_Swap.j0 k l1 a2 a3 true t504))) else (impl_Swap.j0 k l1 a2 a3 true t504)) = some (r1, r2, r3) := H
  have A17 := Aside0.mk A170
  clear A170
  by_cases c18 : t508 = true
  ·subst c18
   have H1 : ((impl_ViewOk.f k l0_0 l1).bind fun t509 => (if t509 = true then ((impl_isCell.f a2).bind fun t510 => (if t510 = true then ((impl_Memory_hasRoom.f l0_0 a2).bind fun t511 => (impl_Swap.j0 k l1 a2 a3 (!t511) t504)) else (impl_Swap.j0 k l1 a2 a3 true t504))) else (impl_Swap.j0 k l1 a2 a3 true t504))) = some (r1, r2, r3) := by rw [if_pos rfl] at H; exact H
   clear H
   have H := H1
   clear H1
   replace H := Option.bind_eq_some_iff.mp H
   obtain ⟨t509, A190, H⟩ := H
   replace H : (if t509 = true then ((impl_isCell.f a2).bind fun t510 => (if t510 = true then ((impl_Memory_hasRoom.f l0_0 a2).bind fun t511 => (impl_Swap.j0 k l1 a2 a3 (!t511) t504)) else (impl_Swap.j0 k l1 a2 a3 true t504))) else (impl_Swap.j0 k l1 a2 a3 true t504)) = some (r1, r2, r3) := H
   have A19 := Aside0.mk A190
   clear A190
   by_cases c20 : t509 = true
   ·subst c20
    have H1 : ((impl_isCell.f a2).bind fun t510 => (if t510 = true then ((impl_Memory_hasRoom.f l0_0 a2).bind fun t511 => (impl_Swap.j0 k l1 a2 a3 (!t511) t504)) else (impl_Swap.j0 k l1 a2 a3 true t504))) = some (r1, r2, r3) := by rw [if_pos rfl] at H; exact H
    clear H
    have H := H1
    clear H1
    replace H := Option.bind_eq_some_iff.mp H
    obtain ⟨t510, A210, H⟩ := H
    replace H : (if t510 = true then ((impl_Memory_hasRoom.f l0_0 a2).bind fun t511 => (impl_Swap.j0 k l1 a2 a3 (!t511) t504)) else (impl_Swap.j0 k l1 a2 a3 true t504)) = some (r1, r2, r3) := H
    have A21 := Aside0.mk A210
    clear A210
    by_cases c22 : t510 = true
    ·subst c22
     have H1 : ((impl_Memory_hasRoom.f l0_0 a2).bind fun t511 => (impl_Swap.j0 k l1 a2 a3 (!t511) t504)) = some (r1, r2, r3) := by rw [if_pos rfl] at H; exact H
     clear H
     have H := H1
     clear H1
     replace H := Option.bind_eq_some_iff.mp H
     obtain ⟨t511, A230, H⟩ := H
     replace H : (impl_Swap.j0 k l1 a2 a3 (!t511) t504) = some (r1, r2, r3) := H
     have A23 := Aside0.mk A230
     clear A230
     have H' := Aside0.mk H
     clear H
     have hnb24 := NB502_503.out
     have hnc24 := NB503_502.out
     have hnb25 := NB502_507.out
     have hnc25 := NB507_502.out
     have hcz26_0 : w12.cell? ⟨gb502, 0, none⟩ = some (.slice A0_0 l0_0.length c0_0) := (blk_cell BK502.out 0).trans rfl
     have hfz26_0 := blk_frozen BK502.out 0
     go_wp2_with (first | ((with_reducible refine gate_callee (f := 26) rfl ?_); refine gL_ (some 18) Try.func26 #[.agg #[.slice A0_0 l0_0.length c0_0]] ?_; (with_reducible refine (impl_MemoryOk.calls k _ _ l0_0 true _ ?side1 ?side2 A17.out).mono ?_); (case side1 => exact Kd.C_below HR0_0.out (gB_ HB.out)); (case side2 => exact HC0_0.out); rintro e w27 ⟨rfl, hb⟩; refine ⟨_, rfl, ?_⟩; have n0_ := Aside0.mk (Kd.S_below (by (with_reducible repeat (first | apply Kd.S_alloc | apply Kd.S_drewN | apply Kd.S_drew)); exact (Kd.S_mono (Kd.S_far (p := ⟨gb507, 0, none⟩) (Kd.S_types HO506.out BK507.out (by decide)) (fun _ hk => hk.2) (.slice Ao13 t504.length co13)) (fun _ h_ => h_.1))) hb); have n1_ := Aside0.mk (nBf_ BK502.out hb); have n2_ := Aside0.mk (nBf_ BK503.out hb); have n3_ := Aside0.mk (blk_below (g := gb507) (o := .cells #[.slice Ao13 t504.length co13] 24 (0, 0)) (by (with_reducible repeat (first | refine blk_drewN ?_ _ | refine blk_drew ?_ | refine blk_alloc ?_ _)); refine blk_put (cs := #[.slice none 0 0]) ?_ 0 _ rfl; exact rW_ BK507.out) hb); have n4_ := Aside0.mk (sT_ HB.out hb); clear HO506; clear BK502; clear BK503; clear BK507; clear HB; have HO506 := n0_; have BK502 := n1_; have BK503 := n2_; have BK507 := n3_; have HB := n4_; clear n0_ n1_ n2_ n3_ n4_; (try clear hb); (try clear hb2); (try clear hk); (try clear hi); have hcz28_0 : w27.cell? ⟨gb502, 0, none⟩ = some (.slice A0_0 l0_0.length c0_0) := (blk_cell BK502.out 0).trans rfl; have hfz28_0 := blk_frozen BK502.out 0) | (go_at_call 28; (with_reducible refine (impl_ViewOk.calls k _ _ l0_0 _ _ l1 true _ ?side1 ?side2 ?side3 ?side4 A19.out).mono ?_); (case side1 => exact cS_ (Kd.C_below HR0_0.out HB.out)); (case side2 => exact HC0_0.out); (case side3 => exact cS_ (Kd.C_below HR1.out HB.out)); (case side4 => exact HC1.out); rintro e w29 ⟨rfl, hb⟩; have n0_ := Aside0.mk (bS_ HO506.out hb); have n1_ := Aside0.mk (nB_ BK502.out hb); have n2_ := Aside0.mk (nB_ BK503.out hb); have n3_ := Aside0.mk (nB_ BK507.out hb); have n4_ := Aside0.mk (sT_ HB.out hb); clear HO506; clear BK502; clear BK503; clear BK507; clear HB; have HO506 := n0_; have BK502 := n1_; have BK503 := n2_; have BK507 := n3_; have HB := n4_; clear n0_ n1_ n2_ n3_ n4_; (try clear hb); (try clear hb2); (try clear hk); (try clear hi)) | (go_at_call 56; (with_reducible refine (impl_isCell.calls a2 true _ A21.out).mono ?_); rintro e w' ⟨rfl, ⟨nd, rfl⟩⟩) | (go_at_call 57; (with_reducible refine (impl_Memory_hasRoom.calls gb502 A0_0 c0_0 l0_0 a2 t511 _ ?sideK ?side1 ?side2 A23.out).mono ?_); (case sideK => exact (by (with_reducible repeat (first | refine blk_drewN ?_ _ | refine blk_drew ?_ | refine blk_alloc ?_ _)); exact BK502.out)); (case side1 => exact cS_ (Kd.C_below HR0_0.out (gB_ HB.out))); (case side2 => exact HC0_0.out); rintro e w30 ⟨rfl, hb⟩; have n0_ := Aside0.mk (bS_ HO506.out hb); have n1_ := Aside0.mk (nB_ BK502.out hb); have n2_ := Aside0.mk (nB_ BK503.out hb); have n3_ := Aside0.mk (nB_ BK507.out hb); have n4_ := Aside0.mk (sT_ HB.out hb); clear HO506; clear BK502; clear BK503; clear BK507; clear HB; have HO506 := n0_; have BK502 := n1_; have BK503 := n2_; have BK507 := n3_; have HB := n4_; clear n0_ n1_ n2_ n3_ n4_; (try clear hb); (try clear hb2); (try clear hk); (try clear hi)))
     go_meet
     case rel => exact ⟨_, (!t511), (by first | rfl | (simp; done) | (simp [*]; done)), H', ⟨by first | omega | exact Nat.le_refl _⟩, ⟨by (with_reducible repeat (first | apply Kd.S_alloc | apply Kd.S_drewN | apply Kd.S_drew)); exact HO506.out⟩, ⟨rW_ BK502.out⟩, ⟨rW_ BK503.out⟩, ⟨rW_ BK507.out⟩, ⟨gW_ HB.out⟩⟩
    ·replace c22 := Bool.eq_false_iff.mpr c22
     subst c22
     have H1 : (impl_Swap.j0 k l1 a2 a3 true t504) = some (r1, r2, r3) := by rw [if_neg (show ¬ (false = true) by decide)] at H; exact H
     clear H
     have H := H1
     clear H1
     have H' := Aside0.mk H
     clear H
     have hnb31 := NB502_503.out
     have hnc31 := NB503_502.out
     have hnb32 := NB502_507.out
     have hnc32 := NB507_502.out
     have hcz33_0 : w12.cell? ⟨gb502, 0, none⟩ = some (.slice A0_0 l0_0.length c0_0) := (blk_cell BK502.out 0).trans rfl
     have hfz33_0 := blk_frozen BK502.out 0
     go_wp2_with (first | ((with_reducible refine gate_callee (f := 26) rfl ?_); refine gL_ (some 18) Try.func26 #[.agg #[.slice A0_0 l0_0.length c0_0]] ?_; (with_reducible refine (impl_MemoryOk.calls k _ _ l0_0 true _ ?side1 ?side2 A17.out).mono ?_); (case side1 => exact Kd.C_below HR0_0.out (gB_ HB.out)); (case side2 => exact HC0_0.out); rintro e w34 ⟨rfl, hb⟩; refine ⟨_, rfl, ?_⟩; have n0_ := Aside0.mk (Kd.S_below (by (with_reducible repeat (first | apply Kd.S_alloc | apply Kd.S_drewN | apply Kd.S_drew)); exact (Kd.S_mono (Kd.S_far (p := ⟨gb507, 0, none⟩) (Kd.S_types HO506.out BK507.out (by decide)) (fun _ hk => hk.2) (.slice Ao13 t504.length co13)) (fun _ h_ => h_.1))) hb); have n1_ := Aside0.mk (nBf_ BK502.out hb); have n2_ := Aside0.mk (nBf_ BK503.out hb); have n3_ := Aside0.mk (blk_below (g := gb507) (o := .cells #[.slice Ao13 t504.length co13] 24 (0, 0)) (by (with_reducible repeat (first | refine blk_drewN ?_ _ | refine blk_drew ?_ | refine blk_alloc ?_ _)); refine blk_put (cs := #[.slice none 0 0]) ?_ 0 _ rfl; exact rW_ BK507.out) hb); have n4_ := Aside0.mk (sT_ HB.out hb); clear HO506; clear BK502; clear BK503; clear BK507; clear HB; have HO506 := n0_; have BK502 := n1_; have BK503 := n2_; have BK507 := n3_; have HB := n4_; clear n0_ n1_ n2_ n3_ n4_; (try clear hb); (try clear hb2); (try clear hk); (try clear hi); have hcz35_0 : w34.cell? ⟨gb502, 0, none⟩ = some (.slice A0_0 l0_0.length c0_0) := (blk_cell BK502.out 0).trans rfl; have hfz35_0 := blk_frozen BK502.out 0) | (go_at_call 28; (with_reducible refine (impl_ViewOk.calls k _ _ l0_0 _ _ l1 true _ ?side1 ?side2 ?side3 ?side4 A19.out).mono ?_); (case side1 => exact cS_ (Kd.C_below HR0_0.out HB.out)); (case side2 => exact HC0_0.out); (case side3 => exact cS_ (Kd.C_below HR1.out HB.out)); (case side4 => exact HC1.out); rintro e w36 ⟨rfl, hb⟩; have n0_ := Aside0.mk (bS_ HO506.out hb); have n1_ := Aside0.mk (nB_ BK502.out hb); have n2_ := Aside0.mk (nB_ BK503.out hb); have n3_ := Aside0.mk (nB_ BK507.out hb); have n4_ := Aside0.mk (sT_ HB.out hb); clear HO506; clear BK502; clear BK503; clear BK507; clear HB; have HO506 := n0_; have BK502 := n1_; have BK503 := n2_; have BK507 := n3_; have HB := n4_; clear n0_ n1_ n2_ n3_ n4_; (try clear hb); (try clear hb2); (try clear hk); (try clear hi)) | (go_at_call 56; (with_reducible refine (impl_isCell.calls a2 false _ A21.out).mono ?_); rintro e w' ⟨rfl, ⟨nd, rfl⟩⟩))
     go_meet
     case rel => exact ⟨_, (true), (by first | rfl | (simp; done) | (simp [*]; done)), H', ⟨by first | omega | exact Nat.le_refl _⟩, ⟨by (with_reducible repeat (first | apply Kd.S_alloc | apply Kd.S_drewN | apply Kd.S_drew)); exact HO506.out⟩, ⟨rW_ BK502.out⟩, ⟨rW_ BK503.out⟩, ⟨rW_ BK507.out⟩, ⟨gW_ HB.out⟩⟩
   ·replace c20 := Bool.eq_false_iff.mpr c20
    subst c20
    have H1 : (impl_Swap.j0 k l1 a2 a3 true t504) = some (r1, r2, r3) := by rw [if_neg (show ¬ (false = true) by decide)] at H; exact H
    clear H
    have H := H1
    clear H1
    have H' := Aside0.mk H
    clear H
    have hnb37 := NB502_503.out
    have hnc37 := NB503_502.out
    have hnb38 := NB502_507.out
    have hnc38 := NB507_502.out
    have hcz39_0 : w12.cell? ⟨gb502, 0, none⟩ = some (.slice A0_0 l0_0.length c0_0) := (blk_cell BK502.out 0).trans rfl
    have hfz39_0 := blk_frozen BK502.out 0
    go_wp2_with (first | ((with_reducible refine gate_callee (f := 26) rfl ?_); refine gL_ (some 18) Try.func26 #[.agg #[.slice A0_0 l0_0.length c0_0]] ?_; (with_reducible refine (impl_MemoryOk.calls k _ _ l0_0 true _ ?side1 ?side2 A17.out).mono ?_); (case side1 => exact Kd.C_below HR0_0.out (gB_ HB.out)); (case side2 => exact HC0_0.out); rintro e w40 ⟨rfl, hb⟩; refine ⟨_, rfl, ?_⟩; have n0_ := Aside0.mk (Kd.S_below (by (with_reducible repeat (first | apply Kd.S_alloc | apply Kd.S_drewN | apply Kd.S_drew)); exact (Kd.S_mono (Kd.S_far (p := ⟨gb507, 0, none⟩) (Kd.S_types HO506.out BK507.out (by decide)) (fun _ hk => hk.2) (.slice Ao13 t504.length co13)) (fun _ h_ => h_.1))) hb); have n1_ := Aside0.mk (nBf_ BK502.out hb); have n2_ := Aside0.mk (nBf_ BK503.out hb); have n3_ := Aside0.mk (blk_below (g := gb507) (o := .cells #[.slice Ao13 t504.length co13] 24 (0, 0)) (by (with_reducible repeat (first | refine blk_drewN ?_ _ | refine blk_drew ?_ | refine blk_alloc ?_ _)); refine blk_put (cs := #[.slice none 0 0]) ?_ 0 _ rfl; exact rW_ BK507.out) hb); have n4_ := Aside0.mk (sT_ HB.out hb); clear HO506; clear BK502; clear BK503; clear BK507; clear HB; have HO506 := n0_; have BK502 := n1_; have BK503 := n2_; have BK507 := n3_; have HB := n4_; clear n0_ n1_ n2_ n3_ n4_; (try clear hb); (try clear hb2); (try clear hk); (try clear hi); have hcz41_0 : w40.cell? ⟨gb502, 0, none⟩ = some (.slice A0_0 l0_0.length c0_0) := (blk_cell BK502.out 0).trans rfl; have hfz41_0 := blk_frozen BK502.out 0) | (go_at_call 28; (with_reducible refine (impl_ViewOk.calls k _ _ l0_0 _ _ l1 false _ ?side1 ?side2 ?side3 ?side4 A19.out).mono ?_); (case side1 => exact cS_ (Kd.C_below HR0_0.out HB.out)); (case side2 => exact HC0_0.out); (case side3 => exact cS_ (Kd.C_below HR1.out HB.out)); (case side4 => exact HC1.out); rintro e w42 ⟨rfl, hb⟩; have n0_ := Aside0.mk (bS_ HO506.out hb); have n1_ := Aside0.mk (nB_ BK502.out hb); have n2_ := Aside0.mk (nB_ BK503.out hb); have n3_ := Aside0.mk (nB_ BK507.out hb); have n4_ := Aside0.mk (sT_ HB.out hb); clear HO506; clear BK502; clear BK503; clear BK507; clear HB; have HO506 := n0_; have BK502 := n1_; have BK503 := n2_; have BK507 := n3_; have HB := n4_; clear n0_ n1_ n2_ n3_ n4_; (try clear hb); (try clear hb2); (try clear hk); (try clear hi)))
    go_meet
    case rel => exact ⟨_, (true), (by first | rfl | (simp; done) | (simp [*]; done)), H', ⟨by first | omega | exact Nat.le_refl _⟩, ⟨by (with_reducible repeat (first | apply Kd.S_alloc | apply Kd.S_drewN | apply Kd.S_drew)); exact HO506.out⟩, ⟨rW_ BK502.out⟩, ⟨rW_ BK503.out⟩, ⟨rW_ BK507.out⟩, ⟨gW_ HB.out⟩⟩
  ·replace c18 := Bool.eq_false_iff.mpr c18
   subst c18
   have H1 : (impl_Swap.j0 k l1 a2 a3 true t504) = some (r1, r2, r3) := by rw [if_neg (show ¬ (false = true) by decide)] at H; exact H
   clear H
   have H := H1
   clear H1
   have H' := Aside0.mk H
   clear H
   have hnb43 := NB502_503.out
   have hnc43 := NB503_502.out
   have hnb44 := NB502_507.out
   have hnc44 := NB507_502.out
   have hcz45_0 : w12.cell? ⟨gb502, 0, none⟩ = some (.slice A0_0 l0_0.length c0_0) := (blk_cell BK502.out 0).trans rfl
   have hfz45_0 := blk_frozen BK502.out 0
   go_wp2_with (first | ((with_reducible refine gate_callee (f := 26) rfl ?_); refine gL_ (some 18) Try.func26 #[.agg #[.slice A0_0 l0_0.length c0_0]] ?_; (with_reducible refine (impl_MemoryOk.calls k _ _ l0_0 false _ ?side1 ?side2 A17.out).mono ?_); (case side1 => exact Kd.C_below HR0_0.out (gB_ HB.out)); (case side2 => exact HC0_0.out); rintro e w46 ⟨rfl, hb⟩; refine ⟨_, rfl, ?_⟩; have n0_ := Aside0.mk (Kd.S_below (by (with_reducible repeat (first | apply Kd.S_alloc | apply Kd.S_drewN | apply Kd.S_drew)); exact (Kd.S_mono (Kd.S_far (p := ⟨gb507, 0, none⟩) (Kd.S_types HO506.out BK507.out (by decide)) (fun _ hk => hk.2) (.slice Ao13 t504.length co13)) (fun _ h_ => h_.1))) hb); have n1_ := Aside0.mk (nBf_ BK502.out hb); have n2_ := Aside0.mk (nBf_ BK503.out hb); have n3_ := Aside0.mk (blk_below (g := gb507) (o := .cells #[.slice Ao13 t504.length co13] 24 (0, 0)) (by (with_reducible repeat (first | refine blk_drewN ?_ _ | refine blk_drew ?_ | refine blk_alloc ?_ _)); refine blk_put (cs := #[.slice none 0 0]) ?_ 0 _ rfl; exact rW_ BK507.out) hb); have n4_ := Aside0.mk (sT_ HB.out hb); clear HO506; clear BK502; clear BK503; clear BK507; clear HB; have HO506 := n0_; have BK502 := n1_; have BK503 := n2_; have BK507 := n3_; have HB := n4_; clear n0_ n1_ n2_ n3_ n4_; (try clear hb); (try clear hb2); (try clear hk); (try clear hi)))
   go_meet
   case rel => exact ⟨_, (true), (by first | rfl | (simp; done) | (simp [*]; done)), H', ⟨by first | omega | exact Nat.le_refl _⟩, ⟨by (with_reducible repeat (first | apply Kd.S_alloc | apply Kd.S_drewN | apply Kd.S_drew)); exact HO506.out⟩, ⟨rW_ BK502.out⟩, ⟨rW_ BK503.out⟩, ⟨rW_ BK507.out⟩, ⟨gW_ HB.out⟩⟩
 case rest =>
  clear HC6
  try clear c1
  try clear c2
  try clear p2
  try clear c3
  try clear c4
  try clear c5
  try clear c9
  try clear c14
  try clear c15
  try clear c18
  try clear c20
  try clear c22
  try clear c24
  try clear c25
  try clear c26
  try clear c31
  try clear c32
  try clear c37
  try clear c38
  try clear c43
  try clear c44
  try clear c45
  try clear hcz10_0 hfz10_0
  try clear hcz16_0 hfz16_0
  try clear hcz26_0 hfz26_0
  try clear hcz28_0 hfz28_0
  try clear hcz33_0 hfz33_0
  try clear hcz35_0 hfz35_0
  try clear hcz39_0 hfz39_0
  try clear hcz41_0 hfz41_0
  try clear hcz45_0 hfz45_0
  obtain ⟨kq, x35_5, rfl, HA, HJ5, HO_508000, BK502, BK503, BK507, HB⟩ := hcut
  cases kq with
  | zero => exact absurd HA.out (by simp [impl_Swap.j0])
  | succ kj5 =>
   have H := HA.out
   clear HA
   simp only [impl_Swap.j0] at H
   by_cases c47 : x35_5 = true
   ·subst c47
    have H1 : ((impl_copyInts.f l1).bind fun t512 => (some (t504, t512, 0))) = some (r1, r2, r3) := by rw [if_pos rfl] at H; exact H
    clear H
    have H := H1
    clear H1
    replace H := Option.bind_eq_some_iff.mp H
    obtain ⟨t512, A480, H⟩ := H
    replace H : (some (t504, t512, 0)) = some (r1, r2, r3) := H
    have A48 := Aside0.mk A480
    clear A480
    simp only [Option.some.injEq, Prod.mk.injEq] at H
    obtain ⟨rfl, rfl, rfl⟩ := H
    try go_wp2
    have n0_ := Aside0.mk (Kd.S_drew HO_508000.out)
    have n1_ := Aside0.mk (blk_drew BK502.out)
    have n2_ := Aside0.mk (blk_drew BK503.out)
    have n3_ := Aside0.mk (blk_drew BK507.out)
    have n4_ := Aside0.mk (below_drew1 HB.out)
    clear HO_508000
    clear BK502
    clear BK503
    clear BK507
    clear HB
    have HO_508000 := n0_
    have BK502 := n1_
    have BK503 := n2_
    have BK507 := n3_
    have HB := n4_
    clear n0_ n1_ n2_ n3_ n4_
    refine start_ (n := 6) (S := fun w' => w'.cell? ⟨gb507, 0, none⟩ = some (.slice Ao13 t504.length co13)) (ds := []) (mk_ 6 0) (by kernel_rfl) rfl rfl ((blk_cell BK507.out 0).trans rfl) (fun hHeld => ?_)
    generalize wc.drew = w49 at HO_508000 BK502 BK503 BK507 HB hHeld ⊢
    refine pU_ 1 (some 37) (mk_ 6 2) ?_
    refine take_ (i := 0) (N := some 36) (v := ?_) (a' := ?_) #[true, true, false, false, false, false] rfl rfl (by kernel_rfl) (fun _ _ _ h => h) (Or.inl ⟨by rfl, ?_⟩) hHeld ?_ ?_
    rotate_left
    ·intro w' s0
     go_simp
     with_reducible rfl
    rotate_left
    ·simp only [Act.put, List.setIfInBounds_toArray, List.set_cons_zero, List.set_cons_succ, i64_w, i32_w]
     rfl
    refine oN_ 2 (some 38) (mk_ 6 7) (fun K hK => ?_)
    refine gO_ Try.func58 #[.slice A1 l1.length c1] ?_
    with_reducible refine (impl_copyInts.calls _ _ l1 t512 _ ?side1 ?side2 A48.out).mono ?_
    (case side1 => exact cS_ (Kd.C_below HR1.out HB.out))
    (case side2 => exact HC1.out)
    rintro e w50 ⟨v513, rfl, ho0, hb⟩
    refine ⟨_, rfl, ?_⟩
    have n0_ := Aside0.mk (Kd.S_elder' (by (with_reducible repeat (first | apply Kd.S_alloc | apply Kd.S_drewN | apply Kd.S_drew)); exact HO_508000.out) (Kd.R_base ho0) hb)
    have n1_ := Aside0.mk (Kd.R_lower ho0 (below_size (gB_ HB.out)))
    have n2_ := Aside0.mk (nB_ BK502.out hb)
    have n3_ := Aside0.mk (nB_ BK503.out hb)
    have n4_ := Aside0.mk (nB_ BK507.out hb)
    have n5_ := Aside0.mk (sT_ HB.out hb)
    clear HO_508000
    clear BK502
    clear BK503
    clear BK507
    clear HB
    have HO_508000 := n0_
    have HO514 := n1_
    have BK502 := n2_
    have BK503 := n3_
    have BK507 := n4_
    have HB := n5_
    clear n0_ n1_ n2_ n3_ n4_ n5_
    (try clear hb)
    (try clear hb2)
    (try clear hk)
    (try clear hi)
    (try clear ho0)
    refine hK.out _ _ ((blk_cell BK507.out 0).trans rfl) (fun hHeld => ?_)
    clear hK K
    refine norm_ (a' := ?_) ?_ ?_
    rotate_left
    ·show Act.put _ (some 38) _ = _
     simp only [Act.put, List.setIfInBounds_toArray, List.set_cons_zero, List.set_cons_succ, i64_w, i32_w]
     rfl
    refine oN_ 3 (none) (mk_ 6 15) (fun K hK => ?_)
    have hs51 : w50.cell? ⟨gb503, 0, none⟩ = some (.slice none 0 0) := (blk_cell BK503.out 0).trans rfl
    have hfs51 := blk_frozen BK503.out 0
    have hns51_0 := NB502_503.out
    have hns51_2 := NB507_503.out
    have hms51_0 := NB503_502.out
    have hms51_2 := NB503_507.out
    refine skip_ (w1 := ?_) (by rfl) rfl ?_ ?_
    rotate_left
    ·go_simp
     rfl
    refine hK.out _ _ ((cf_ NB507_503.out hHeld)) (fun hHeld => ?_)
    clear hK K
    refine pU_ 4 (some 9) (mk_ 6 31) ?_
    refine pU_ 5 (some 10) (mk_ 6 63) ?_
    refine done_ (by kernel_rfl) ?_
    try go_wp2
    refine bodyPost_ret (results_ctt rfl _ _ gb503 24 #[.slice Ao13 t504.length co13] (0, 0) _ rfl (by (with_reducible repeat (first | refine blk_drewN ?_ _ | refine blk_drew ?_ | refine blk_alloc ?_ _)); refine blk_put (cs := #[.slice none 0 0]) ?_ 0 _ rfl; exact rW_ BK503.out) Try.underlying24 rfl (by kernel_rfl)) rfl ?_
    exact ⟨_, _, fR_, by (with_reducible repeat (first | apply Kd.S_alloc | apply Kd.S_drewN | apply Kd.S_drew)); exact Kd.S_mono (Kd.S_far (p := ⟨gb503, 0, none⟩) (Kd.S_types HO_508000.out BK503.out (by decide)) (fun _ hk => hk.2) (.slice Ao13 t504.length co13)) (fun _ hk => hk.1.2), by (with_reducible repeat (first | apply Kd.R_alloc | apply Kd.R_drewN | apply Kd.R_drew)); exact Kd.R_mono (Kd.R_far (p := ⟨gb503, 0, none⟩) (Kd.R_types HO514.out BK503.out (by decide)) (fun _ hk => hk.2) (.slice Ao13 t504.length co13)) (fun _ hk => trivial), gB_ HB.out⟩
   ·replace c47 := Bool.eq_false_iff.mpr c47
    subst c47
    have H1 : ((impl_Memory_load.f kj5 t504 l1 a2 0 true).bind fun bt515 => ((impl_Memory_store.f t504 bt515.2 a2 a3 true).bind fun bt519 => (some (bt519.1, bt519.2, bt515.1)))) = some (r1, r2, r3) := by rw [if_neg (show ¬ (false = true) by decide)] at H; exact H
    clear H
    have H := H1
    clear H1
    replace H := Option.bind_eq_some_iff.mp H
    obtain ⟨⟨t515, t516⟩, A520, H⟩ := H
    replace H : ((impl_Memory_store.f t504 t516 a2 a3 true).bind fun bt519 => (some (bt519.1, bt519.2, t515))) = some (r1, r2, r3) := H
    have A52 := Aside0.mk A520
    clear A520
    replace H := Option.bind_eq_some_iff.mp H
    obtain ⟨⟨t519m, t519⟩, A530, H⟩ := H
    replace H : (some (t519m, t519, t515)) = some (r1, r2, r3) := H
    have A53 := Aside0.mk A530
    clear A530
    simp only [Option.some.injEq, Prod.mk.injEq] at H
    obtain ⟨rfl, rfl, rfl⟩ := H
    have hnb54 := NB507_502.out
    have hnc54 := NB502_507.out
    have hnb55 := NB507_503.out
    have hnc55 := NB503_507.out
    have hcz56_0 : wc.cell? ⟨gb507, 0, none⟩ = some (.slice Ao13 t504.length co13) := (blk_cell BK507.out 0).trans rfl
    have hfz56_0 := blk_frozen BK507.out 0
    go_wp2_with (first | ((with_reducible refine gate_callee (f := 60) rfl ?_); refine gL_ (some 42) Try.func60 #[.pointer (some ⟨gb507, 0, none⟩), .slice A1 l1.length c1, .int .i64 a2, .int .i64 0, .bool true] ?_; (with_reducible refine (impl_Memory_load.calls kj5 gb507 Ao13 co13 t504 _ _ l1 a2 0 true t515 t516 _ ?sideK ?side1 ?side2 ?side3 ?side4 A52.out).mono ?_); (case sideK => exact (by (with_reducible repeat (first | refine blk_drewN ?_ _ | refine blk_drew ?_ | refine blk_alloc ?_ _)); exact BK507.out)); (case side1 => exact cS_ (Kd.R_reads' (S_Rs HO_508000.out)).2.2); (case side2 => exact (Kd.R_reads' (S_Rs HO_508000.out)).2.1); (case side3 => exact cS_ (Kd.C_below HR1.out HB.out)); (case side4 => exact HC1.out); rintro e w57 ⟨v517, rfl, ho0, hb⟩; refine ⟨_, rfl, ?_⟩; have n0_ := Aside0.mk (Kd.S_elder' (by (with_reducible repeat (first | apply Kd.S_alloc | apply Kd.S_drewN | apply Kd.S_drew)); exact HO_508000.out) (Kd.R_base ho0) hb); have n1_ := Aside0.mk (Kd.R_lower ho0 (below_size (gB_ HB.out))); have n2_ := Aside0.mk (nB_ BK502.out hb); have n3_ := Aside0.mk (nB_ BK503.out hb); have n4_ := Aside0.mk (nB_ BK507.out hb); have n5_ := Aside0.mk (sT_ HB.out hb); clear HO_508000; clear BK502; clear BK503; clear BK507; clear HB; have HO_508000 := n0_; have HO518 := n1_; have BK502 := n2_; have BK503 := n3_; have BK507 := n4_; have HB := n5_; clear n0_ n1_ n2_ n3_ n4_ n5_; (try clear hb); (try clear hb2); (try clear hk); (try clear hi); (try clear ho0); have hcz58_0 : w57.cell? ⟨gb507, 0, none⟩ = some (.slice Ao13 t504.length co13) := (blk_cell BK507.out 0).trans rfl; have hfz58_0 := blk_frozen BK507.out 0; obtain ⟨Ao59, co59, eo59⟩ := Kd.R_slice HO518.out; subst eo59) | ((with_reducible refine gate_callee (f := 59) rfl ?_); refine gL_ (some 48) Try.func59 #[.pointer (some ⟨gb507, 0, none⟩), .slice Ao59 t516.length co59, .int .i64 a2, .int .i64 a3, .bool true] ?_; (with_reducible refine (impl_Memory_store.calls (fun k_ => ((((w.heap.size ≤ k_) ∧ k_ ≠ gb502) ∧ k_ ≠ gb503) ∧ k_ ≠ gb507)) gb507 Ao13 co13 t504 _ _ t516 a2 a3 true t519m t519 w.heap.size _ ?sideK ?side1 ?sideB ?side3 ?side4 A53.out).mono ?_); (case sideK => exact BK507.out); (case side1 => have h9_ := Kd.S_types (Kd.S_types (Kd.S_types (Kd.S_bound HO_508000.out) BK502.out (by decide)) BK503.out (by decide)) BK507.out (by decide); exact Kd.S_mono h9_ (fun _ hk => ⟨⟨⟨hk.1.1.1.2.1, hk.1.1.2⟩, hk.1.2⟩, hk.2⟩)); (case sideB => exact (below_size (gB_ HB.out))); (case side3 => exact cS_ (Kd.R_reads' HO518.out).2.2); (case side4 => exact (Kd.R_reads' HO518.out).2.1); rintro e w60 ⟨v520, rfl, hbk_, ho9_, ho0, hb, hk_⟩; refine ⟨_, rfl, ?_⟩; have n0_ := Aside0.mk (Kd.S_mono (ok' := fun k_ => (w.heap.size ≤ k_) ∧ some k_ ≠ (v520 : Value).ownBlock) ho9_ (fun k hk => ⟨hk.1.elim (fun h => h.1.1.1) (fun h => Nat.le_trans (below_size (gB_ HB.out)) h), hk.2⟩)); have n1_ := Aside0.mk trivial; have n2_ := Aside0.mk (Kd.R_lower (Kd.R_new' ho0 (Kd.R_lt (by (with_reducible repeat (first | apply Kd.R_alloc | apply Kd.R_drewN | apply Kd.R_drew)); exact HO518.out))) (below_size (gB_ HB.out))); have n3_ := Aside0.mk (blk_kept (g := gb502) (o := .cells #[.slice A0_0 l0_0.length c0_0] 24 (0, 0)) (by (with_reducible repeat (first | refine blk_drewN ?_ _ | refine blk_drew ?_ | refine blk_alloc ?_ _)); exact BK502.out) hk_ (fun h_ => absurd rfl (by first | exact h_.2 | exact h_.1.2 | exact h_.1.1.2 | exact h_.1.1.1.2))); have n4_ := Aside0.mk (blk_kept (g := gb503) (o := .cells #[.slice none 0 0] 24 (0, 0)) (by (with_reducible repeat (first | refine blk_drewN ?_ _ | refine blk_drew ?_ | refine blk_alloc ?_ _)); exact BK503.out) hk_ (fun h_ => absurd rfl (by first | exact h_.2 | exact h_.1.2 | exact h_.1.1.2 | exact h_.1.1.1.2))); have n5_ := Aside0.mk hbk_; have n6_ := Aside0.mk (Below.trans (gB_ HB.out) hb); clear HO_508000; clear HO518; clear BK502; clear BK503; clear BK507; clear HB; have HO_508000 := n0_; have HO518 := n1_; have HO521 := n2_; have BK502 := n3_; have BK503 := n4_; have BK507 := n5_; have HB := n6_; clear n0_ n1_ n2_ n3_ n4_ n5_ n6_; (try clear hb); (try clear hk_ hbk_ ho9_); (try clear hb2); (try clear hk); (try clear hi); (try clear ho0); have hcz61_0 : w60.cell? ⟨gb507, 0, none⟩ = some (.slice Ao13 t504.length co13) := (blk_cell BK507.out 0).trans rfl; have hfz61_0 := blk_frozen BK507.out 0; have hnb62 := NB503_502.out; have hnc62 := NB502_503.out; have hcz63_0 : w60.cell? ⟨gb503, 0, none⟩ = some (.slice none 0 0) := (blk_cell BK503.out 0).trans rfl; have hfz63_0 := blk_frozen BK503.out 0))
    refine bodyPost_ret (results_ctt rfl _ _ gb503 24 #[.slice Ao13 t504.length co13] (0, 0) _ rfl (by (with_reducible repeat (first | refine blk_drewN ?_ _ | refine blk_drew ?_ | refine blk_alloc ?_ _)); refine blk_put (cs := #[.slice none 0 0]) ?_ 0 _ rfl; exact rW_ BK503.out) Try.underlying24 rfl (by kernel_rfl)) rfl ?_
    exact ⟨_, _, fR_, by (with_reducible repeat (first | apply Kd.S_alloc | apply Kd.S_drewN | apply Kd.S_drew)); exact Kd.S_mono (Kd.S_far (p := ⟨gb503, 0, none⟩) (Kd.S_types HO_508000.out BK503.out (by decide)) (fun _ hk => hk.2) (.slice Ao13 t504.length co13)) (fun _ hk => hk.1.2), by (with_reducible repeat (first | apply Kd.R_alloc | apply Kd.R_drewN | apply Kd.R_drew)); exact Kd.R_mono (Kd.R_far (p := ⟨gb503, 0, none⟩) (Kd.R_types HO521.out BK503.out (by decide)) (fun _ hk => hk.2) (.slice Ao13 t504.length co13)) (fun _ hk => trivial), gB_ HB.out⟩
theorem impl_Swap.calls (k : Nat) (A0_0 : Option Addr) (c0_0 : Nat) (l0_0 : List (List (S43))) (A1 : Option Addr) (c1 : Nat) (l1 : List Int) (a2 : Int) (a3 : Int) (r1 : List (List (S43))) (r2 : List Int) (r3 : Int) (w : World) (hr0_0 : Kd.C (Kd.slice 43 k43) w A0_0 l0_0.length l0_0) (hc0_0 : l0_0.length ≤ c0_0) (hr1 : Kd.C (Kd.int .i64) w A1 l1.length l1) (hc1 : l1.length ≤ c1) (h : impl_Swap.f k l0_0 l1 a2 a3 = some (r1, r2, r3)) :
  Calls Try.prog 45 #[.agg #[.slice A0_0 l0_0.length c0_0], .slice A1 l1.length c1, .int .i64 a2, .int .i64 a3] w fun e w' => ∃ v0_ v1_ : Value, e = .returned (.tuple #[.agg #[v0_], v1_, .int .i64 r3]) ∧ Kd.R (Kd.slice 43 k43) 44 w' w.heap.size (fun k_ => some k_ ≠ (v1_ : Value).ownBlock) v0_ r1 ∧ Kd.R (Kd.int .i64) 3 w' w.heap.size (fun _ => True) v1_ r2 ∧ Below w.heap.size w w' :=
 (impl_Swap.callsS k A0_0 c0_0 l0_0 A1 c1 l1 a2 a3 r1 r2 r3 w hr0_0 hc0_0 hr1 hc1 h).mono fun e w' ⟨v0_, v1_, h0_, h1_, h2_, h3_⟩ => ⟨v0_, v1_, h0_, S_Rs h1_, h2_, h3_⟩
end Go.Proofs.Ythbcnakmnbilhaa.PFnSwap
