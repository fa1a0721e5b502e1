/- A part of the proof that the law FnSwap holds for every input: the words, functions and walks that its row needs, without a condition of their own. -/
import Derived.Test.YthbcnakmnbilhaaZFnSwapa2
import Derived.Test.YthbcnakmnbilhaaZFnSwapa5
import Derived.Test.YthbcnakmnbilhaaZFnSwapa6
import Derived.Test.YthbcnakmnbilhaaZFnSwaps
namespace Go.Proofs.Ythbcnakmnbilhaa.PFnSwap
open Go.RowKit Go.Proofs.YthbcnakmnbilhaaW.PrintWords Go.Proofs.YthbcnakmnbilhaaW.PrintLast Go.Proofs.YthbcnakmnbilhaaW.PrintMore Go.Proofs.Ythbcnakmnbilhaa.SepMark
attribute [local go_sem] max2_int min2_int max_two min_two max_three min_three max_four min_four   -- for this text's walks alone
set_option linter.unusedVariables false
set_option linter.unusedSimpArgs false
def spec_l6Load.f (k : Nat) (l0_0 : List (List (S43))) (l1 : List Int) (a2 : Int) (a3 : Int) (a4 : Bool) : Option (Int × List Int) := if 0 ≤ a2 then (if a2 < (l0_0.length : Int) then ((spec_l1Max.f a3 0).bind fun t214 => (if a2 < (l1.length : Int) then ((spec_l1Max.f (wrap64 ((wrap64 (((rd_L4 l0_0 a2).length : Int) - 1)) - t214)) (rd l1 a2)).bind fun t216 => ((some (([] : List Int) : List Int)).bind fun y217 => (if y217.length + l1.length < 17592186044416 then ((some (y217 ++ l1 : List Int)).bind fun y220 => (if a2 < (y220.length : Int) then ((some (y220.set (a2 : Int).toNat t216 : List Int)).bind fun y223 => (if a4 = true then (if 0 ≤ t216 then (if t216 < ((rd_L4 l0_0 a2).length : Int) then ((spec_Join.f k y223 ((rd_T43 (rd_L4 l0_0 a2) t216).f1)).bind fun t225 => (some ((rd_T43 (rd_L4 l0_0 a2) t216).f0, t225))) else (none)) else (none)) else (if 0 ≤ t216 then (if t216 < ((rd_L4 l0_0 a2).length : Int) then (some ((rd_T43 (rd_L4 l0_0 a2) t216).f0, y223)) else (none)) else (none)))) else (none))) else (none)))) else (none))) else (none)) else (none)
set_option maxHeartbeats 8000000 in
set_option maxRecDepth 100000 in
theorem spec_l6Load.calls (k : Nat) (A0_0 : Option Addr) (c0_0 : Nat) (l0_0 : List (List (S43))) (A1 : Option Addr) (c1 : Nat) (l1 : List Int) (a2 : Int) (a3 : Int) (a4 : Bool) (r1 : Int) (r2 : List Int) (w : World) (hr0_0 : Kd.C (Kd.slice 43 k43) w A0_0 l0_0.length l0_0) (hc0_0 : l0_0.length ≤ c0_0) (hr1 : Kd.C (Kd.int .i64) w A1 l1.length l1) (hc1 : l1.length ≤ c1) (h : spec_l6Load.f k l0_0 l1 a2 a3 a4 = some (r1, r2)) :
  Calls Try.prog 62 #[.agg #[.slice A0_0 l0_0.length c0_0], .slice A1 l1.length c1, .int .i64 a2, .int .i64 a3, .bool a4] w fun e w' => ∃ v1_ : Value, e = .returned (.tuple #[.int .i64 r1, v1_]) ∧ Kd.R (Kd.int .i64) 3 w' w.heap.size (fun _ => True) v1_ r2 ∧ Below w.heap.size w w' := by
 have hu24 := Try.underlying24
 have HR0_0 := aM_ hr0_0
 have HC0_0 := aM_ hc0_0
 clear hr0_0 hc0_0
 have HR1 := aM_ hr1
 have HC1 := aM_ hc1
 clear hr1 hc1
 have HB := aM_ (Below.refl w.heap.size w)
 have H : (if 0 ≤ a2 then (if a2 < (l0_0.length : Int) then ((spec_l1Max.f a3 0).bind fun t214 => (if a2 < (l1.length : Int) then ((spec_l1Max.f (wrap64 ((wrap64 (((rd_L4 l0_0 a2).length : Int) - 1)) - t214)) (rd l1 a2)).bind fun t216 => ((some (([] : List Int) : List Int)).bind fun y217 => (if y217.length + l1.length < 17592186044416 then ((some (y217 ++ l1 : List Int)).bind fun y220 => (if a2 < (y220.length : Int) then ((some (y220.set (a2 : Int).toNat t216 : List Int)).bind fun y223 => (if a4 = true then (if 0 ≤ t216 then (if t216 < ((rd_L4 l0_0 a2).length : Int) then ((spec_Join.f k y223 ((rd_T43 (rd_L4 l0_0 a2) t216).f1)).bind fun t225 => (some ((rd_T43 (rd_L4 l0_0 a2) t216).f0, t225))) else (none)) else (none)) else (if 0 ≤ t216 then (if t216 < ((rd_L4 l0_0 a2).length : Int) then (some ((rd_T43 (rd_L4 l0_0 a2) t216).f0, y223)) else (none)) else (none)))) else (none))) else (none)))) else (none))) else (none)) else (none)) = some (r1, r2) := h
 clear h
 by_cases c6 : 0 ≤ a2
 ·rw [if_pos c6] at H
  have c6b0 : decide (0 ≤ a2) = true := decide_eq_true c6
  clear c6
  by_cases c7 : a2 < (l0_0.length : Int)
  ·rw [if_pos c7] at H
   have c7b0 : decide (a2 < (l0_0.length : Int)) = true := decide_eq_true c7
   clear c7
   replace H := Option.bind_eq_some_iff.mp H
   obtain ⟨t214, A80, H⟩ := H
   replace H : (if a2 < (l1.length : Int) then ((spec_l1Max.f (wrap64 ((wrap64 (((rd_L4 l0_0 a2).length : Int) - 1)) - t214)) (rd l1 a2)).bind fun t216 => ((some (([] : List Int) : List Int)).bind fun y217 => (if y217.length + l1.length < 17592186044416 then ((some (y217 ++ l1 : List Int)).bind fun y220 => (if a2 < (y220.length : Int) then ((some (y220.set (a2 : Int).toNat t216 : List Int)).bind fun y223 => (if a4 = true then (if 0 ≤ t216 then (if t216 < ((rd_L4 l0_0 a2).length : Int) then ((spec_Join.f k y223 ((rd_T43 (rd_L4 l0_0 a2) t216).f1)).bind fun t225 => (some ((rd_T43 (rd_L4 l0_0 a2) t216).f0, t225))) else (none)) else (none)) else (if 0 ≤ t216 then (if t216 < ((rd_L4 l0_0 a2).length : Int) then (some ((rd_T43 (rd_L4 l0_0 a2) t216).f0, y223)) else (none)) else (none)))) else (none))) else (none)))) else (none)) = some (r1, r2) := H
   have A8 := aM_ A80
   clear A80
   by_cases c9 : a2 < (l1.length : Int)
   ·rw [if_pos c9] at H
    have c9b0 : decide (a2 < (l1.length : Int)) = true := decide_eq_true c9
    clear c9
    replace H := Option.bind_eq_some_iff.mp H
    obtain ⟨t216, A100, H⟩ := H
    replace H : ((some (([] : List Int) : List Int)).bind fun y217 => (if y217.length + l1.length < 17592186044416 then ((some (y217 ++ l1 : List Int)).bind fun y220 => (if a2 < (y220.length : Int) then ((some (y220.set (a2 : Int).toNat t216 : List Int)).bind fun y223 => (if a4 = true then (if 0 ≤ t216 then (if t216 < ((rd_L4 l0_0 a2).length : Int) then ((spec_Join.f k y223 ((rd_T43 (rd_L4 l0_0 a2) t216).f1)).bind fun t225 => (some ((rd_T43 (rd_L4 l0_0 a2) t216).f0, t225))) else (none)) else (none)) else (if 0 ≤ t216 then (if t216 < ((rd_L4 l0_0 a2).length : Int) then (some ((rd_T43 (rd_L4 l0_0 a2) t216).f0, y223)) else (none)) else (none)))) else (none))) else (none))) = some (r1, r2) := H
    have A10 := aM_ A100
    clear A100
    obtain ⟨y217, hy217⟩ : ∃ y_ : List Int, y_ = (([] : List Int)) := ⟨_, rfl⟩
    replace H : (if y217.length + l1.length < 17592186044416 then ((some (y217 ++ l1 : List Int)).bind fun y220 => (if a2 < (y220.length : Int) then ((some (y220.set (a2 : Int).toNat t216 : List Int)).bind fun y223 => (if a4 = true then (if 0 ≤ t216 then (if t216 < ((rd_L4 l0_0 a2).length : Int) then ((spec_Join.f k y223 ((rd_T43 (rd_L4 l0_0 a2) t216).f1)).bind fun t225 => (some ((rd_T43 (rd_L4 l0_0 a2) t216).f0, t225))) else (none)) else (none)) else (if 0 ≤ t216 then (if t216 < ((rd_L4 l0_0 a2).length : Int) then (some ((rd_T43 (rd_L4 l0_0 a2) t216).f0, y223)) else (none)) else (none)))) else (none))) else (none)) = some (r1, r2) := by first | (rw [hy217]; with_reducible exact H) | (have H2_ := (Option.bind_some _ _).symm.trans H; rw [hy217]; with_reducible exact H2_) | (have H2_ := (Option.bind_some _ _).symm.trans H; with_reducible exact H2_) | with_reducible exact H | (rw [hy217]; exact H) | exact H
    have Ny217 := aM_ hy217
    clear hy217
    by_cases c11 : y217.length + l1.length < 17592186044416
    ·rw [if_pos c11] at H
     have LMc11 := aM_ c11
     clear c11
     obtain ⟨y220, hy220⟩ : ∃ y_ : List Int, y_ = (y217 ++ l1) := ⟨_, rfl⟩
     replace H : (if a2 < (y220.length : Int) then ((some (y220.set (a2 : Int).toNat t216 : List Int)).bind fun y223 => (if a4 = true then (if 0 ≤ t216 then (if t216 < ((rd_L4 l0_0 a2).length : Int) then ((spec_Join.f k y223 ((rd_T43 (rd_L4 l0_0 a2) t216).f1)).bind fun t225 => (some ((rd_T43 (rd_L4 l0_0 a2) t216).f0, t225))) else (none)) else (none)) else (if 0 ≤ t216 then (if t216 < ((rd_L4 l0_0 a2).length : Int) then (some ((rd_T43 (rd_L4 l0_0 a2) t216).f0, y223)) else (none)) else (none)))) else (none)) = some (r1, r2) := by first | (rw [hy220]; with_reducible exact H) | (have H2_ := (Option.bind_some _ _).symm.trans H; rw [hy220]; with_reducible exact H2_) | (have H2_ := (Option.bind_some _ _).symm.trans H; with_reducible exact H2_) | with_reducible exact H | (rw [hy220]; exact H) | exact H
     have Ny220 := aM_ hy220
     clear hy220
     by_cases c12 : a2 < (y220.length : Int)
     ·rw [if_pos c12] at H
      have c12b0 : decide (a2 < (y220.length : Int)) = true := decide_eq_true c12
      clear c12
      obtain ⟨y223, hy223⟩ : ∃ y_ : List Int, y_ = (y220.set (a2 : Int).toNat t216) := ⟨_, rfl⟩
      replace H : (if a4 = true then (if 0 ≤ t216 then (if t216 < ((rd_L4 l0_0 a2).length : Int) then ((spec_Join.f k y223 ((rd_T43 (rd_L4 l0_0 a2) t216).f1)).bind fun t225 => (some ((rd_T43 (rd_L4 l0_0 a2) t216).f0, t225))) else (none)) else (none)) else (if 0 ≤ t216 then (if t216 < ((rd_L4 l0_0 a2).length : Int) then (some ((rd_T43 (rd_L4 l0_0 a2) t216).f0, y223)) else (none)) else (none))) = some (r1, r2) := by first | (rw [hy223]; with_reducible exact H) | (have H2_ := (Option.bind_some _ _).symm.trans H; rw [hy223]; with_reducible exact H2_) | (have H2_ := (Option.bind_some _ _).symm.trans H; with_reducible exact H2_) | with_reducible exact H | (rw [hy223]; exact H) | exact H
      have Ny223 := aM_ hy223
      clear hy223
      by_cases c14 : a4 = true
      ·subst c14
       have H1 : (if 0 ≤ t216 then (if t216 < ((rd_L4 l0_0 a2).length : Int) then ((spec_Join.f k y223 ((rd_T43 (rd_L4 l0_0 a2) t216).f1)).bind fun t225 => (some ((rd_T43 (rd_L4 l0_0 a2) t216).f0, t225))) else (none)) else (none)) = some (r1, r2) := by rw [if_pos rfl] at H; exact H
       clear H
       have H := H1
       clear H1
       by_cases c15 : 0 ≤ t216
       ·rw [if_pos c15] at H
        have c15b0 : decide (0 ≤ t216) = true := decide_eq_true c15
        clear c15
        by_cases c16 : t216 < ((rd_L4 l0_0 a2).length : Int)
        ·rw [if_pos c16] at H
         have c16b0 : decide (t216 < ((rd_L4 l0_0 a2).length : Int)) = true := decide_eq_true c16
         clear c16
         replace H := Option.bind_eq_some_iff.mp H
         obtain ⟨t225, A170, H⟩ := H
         replace H : (some ((rd_T43 (rd_L4 l0_0 a2) t216).f0, t225)) = some (r1, r2) := H
         have A17 := aM_ A170
         clear A170
         simp only [Option.some.injEq, Prod.mk.injEq] at H
         obtain ⟨rfl, rfl⟩ := H
         go_enter Try.func62, Try.ntmps62
         go_wp2_with (first | ((with_reducible refine gate_dst (N := 5) rfl ?_); refine bX_ 5 (cs := #[.slice A0_0 l0_0.length c0_0]) (t := 24) ?_; intro gb212 hg w18 hbox hb; have n0 := aM_ (sT_ HB.out hb); have n1 := aM_ (hbox); have n2 := aM_ (sZ_ hg HB.out); have n3 := aM_ (sZ_ hg HB.out); clear HB; have HB := n0; have BK212 := n1; have GW212 := n2; have GE212 := n3; clear n0 n1 n2 n3; clear hb hbox hg; have hcz19_0 : w18.cell? ⟨gb212, 0, none⟩ = some (.slice A0_0 l0_0.length c0_0) := (blk_cell BK212.out 0).trans rfl; have hfz19_0 := blk_frozen BK212.out 0; have p213 : 0 ≤ (a2 : Int) := of_decide_eq_true (by first | (with_reducible assumption) | assumption); have q213 : a2 < (l0_0.length : Int) := of_decide_eq_true (by first | (with_reducible assumption) | assumption); obtain ⟨ad213, A213_0, c213_0, e213, hx213_0, hl213_0, hi213_0⟩ := at_L4 HR0_0.out a2 p213 q213; cases e213; replace hx213_0 := cB_ HB.out hx213_0; have HR213_0 := aM_ hi213_0; have HC213_0 := aM_ hl213_0; clear hi213_0 hl213_0; replace p213 := eq_true p213; replace q213 := eq_true q213; have p215 : 0 ≤ (a2 : Int) := of_decide_eq_true (by first | (with_reducible assumption) | assumption); have q215 : a2 < (l1.length : Int) := of_decide_eq_true (by first | (with_reducible assumption) | assumption); obtain ⟨ad215, e215, hx215_0⟩ := Kd.at_int HR1.out a2 p215 q215; cases e215; replace hx215_0 := cB_ HB.out hx215_0; replace p215 := eq_true p215; replace q215 := eq_true q215) | (go_at_call 95; (with_reducible refine (spec_l1Max.calls a3 0 t214 _ A8.out).mono ?_); rintro e w' ⟨rfl, ⟨nd, rfl⟩⟩; (try first | exact ⟨rfl, _, World.drewN_drewN _ _ _⟩ | exact ⟨rfl, _, Eq.trans (World.drewN_drewN _ _ _) (congrArg (World.drewN _) (Nat.add_assoc _ _ _))⟩)) | (go_at_call 95; (with_reducible refine (spec_l1Max.calls (wrap64 ((wrap64 (((rd_L4 l0_0 a2).length : Int) - 1)) - t214)) (rd l1 a2) t216 _ A10.out).mono ?_); rintro e w' ⟨rfl, ⟨nd, rfl⟩⟩; (try first | exact ⟨rfl, _, World.drewN_drewN _ _ _⟩ | exact ⟨rfl, _, Eq.trans (World.drewN_drewN _ _ _) (congrArg (World.drewN _) (Nat.add_assoc _ _ _))⟩)) | ((with_reducible refine gate_dst (N := 31) rfl ?_); refine Kd.R_lit (Kd.int .i64) _ 3 ?hg (N := 31) ?hd (xs := ([] : List Int)) (inner := []) (ok := fun _ => True) (okp := fun _ => True) ?hr ?hp (fun _ hk => hk) trivial (Below.refl _ _) (Nat.le_refl _) (by simp) ?_; (case hd => rfl); (case hg => rfl); (case hr => first | (go_simp; done) | (go_simp; rfl)); (case hp => exact (Reps.none _ _)); intro v218 w20 ho21 hb hg_ hnew_; clear hg_ hnew_; (first | rw [← Ny217.out] at ho21 | (simp only [Int.reduceToNat] at ho21; rw [← Ny217.out] at ho21)); have n0 := aM_ (Kd.R_lower ho21 (below_size (gB_ HB.out))); have n1 := aM_ (nB_ BK212.out hb); have n2 := aM_ (sT_ HB.out hb); clear BK212; clear HB; have HO219 := n0; have BK212 := n1; have HB := n2; clear n0 n1 n2; clear hb ho21) | ((with_reducible refine gate_builtin (b := .append) (xs := #[.tmp 31, .tmp 32]) rfl ?_); at_builtin; refine Kd.R_append_rows (Kd.int .i64) (w0 := w) w.heap.size rfl (.tmp 31) (.tmp 32) 31 3 (.int .i64 0) 8 rfl Try.underlying31 info3 rfl (by decide) (by omega) v218 y217 l1 _ _ _ (fun _ => True) (fun _ => False) rfl rfl ?aO ?aR (fun _ _ h => h) (fun _ h => h.elim) ?aF ?aB ?aS ?aL ?_; (case aR => repeat (first | exact (Kd.C_below HR1.out HB.out) | (with_reducible refine Kd.C_alloc ?_ _) | (with_reducible refine Kd.C_drewN ?_ _) | (with_reducible refine Kd.C_drew ?_))); (case aB => exact (gB_ HB.out)); (case aF => exact (fun _ _ => trivial)); (case aO => exact (by (with_reducible repeat (first | apply rA_ | apply rN_ | apply rD_)); exact HO219.out)); (case aS => exact (below_size (gB_ HB.out))); (case aL => have := LMc11.out; omega); intro v221 w22 ho hb hg hat; rw [← Ny220.out] at ho; have n0 := aM_ (blk_grown (g := gb212) (o := .cells #[.slice (some ad213) l0_0.length c0_0] 24 (0, 0)) (by (with_reducible repeat (first | refine bN_ ?_ _ | refine bD_ ?_ | refine bA_ ?_ _)); exact BK212.out) hg (Kd.R_ne HO219.out BK212.out (by decide))); have n1 := aM_ (hb); have n2 := aM_ (ho); clear BK212; clear HB; clear HO219; have BK212 := n0; have HB := n1; have HO222 := n2; clear n0 n1 n2; clear ho hb hg hat; have p13 : 0 ≤ (a2 : Int) := of_decide_eq_true (by first | (with_reducible assumption) | assumption); have q13 : (a2 : Int) < ((y220.length : Int) : Int) := of_decide_eq_true (by first | (with_reducible assumption) | assumption); obtain ⟨go13, co13, eo13, gb13, gl13, cl13, HG13⟩ := Kd.R_form HO222.out (by omega); (first | cases eo13 | (injection eo13 with ea_ en_ ec_; (first | subst ea_ | (injection ea_ with ea_; subst ea_)); subst ec_; clear en_)); have GB13 := aM_ gb13; have GG13 := aM_ HG13; clear gb13 gl13 HG13; obtain ⟨hx13_0, hf13_0⟩ := Kd.R_celln 0 HO222.out (a2 : Int) p13 q13; replace p13 := eq_true p13; replace q13 := eq_true q13; obtain ⟨hy23_, hz23_⟩ := Kd.R_celln 0 HO222.out (a2 : Int) (of_decide_eq_true (by first | (with_reducible assumption) | assumption)) (of_decide_eq_true (by first | (with_reducible assumption) | assumption)); have HP23 := Kd.R_putg HO222.out (a2 : Int) t216) | ((with_reducible refine gate_store (t := 3) (p := 37) rfl ?_); (try (rw [drewN_self w22]; generalize hq_ : World.drewN w22 _ = w22; have n0 := aM_ (Kd.R_at hq_ HO222.out); have n1 := aM_ (blk_at hq_ BK212.out); have n2 := aM_ (below_at hq_ HB.out); clear hq_ HO222 BK212 HB; have HO222 := n0; have BK212 := n1; have HB := n2; clear n0 n1 n2; (try (obtain ⟨hy23_, hz23_⟩ := Kd.R_celln 0 HO222.out (a2 : Int) (of_decide_eq_true (by first | (with_reducible assumption) | assumption)) (of_decide_eq_true (by first | (with_reducible assumption) | assumption)))); (try (have HP23 := Kd.R_putg HO222.out (a2 : Int) t216)))); refine store_event (t := 3) (p := 37) (v := ?vo_w24) (w1 := (w22.setCell ⟨go13, (a2 : Int).toNat, none⟩ (.int .i64 t216))) ?hg ?ho ?hn ?hr ?_; (case ho => rfl); (case hg => rfl); (case hn => rfl); (case hr => first | (go_simp; done) | (go_simp; rfl)); intro w24 hw; have hg : w22.grownBy w24 (some go13) := (by rw [hw]; exact HP23.2); have hp_ : Kd.R (Kd.int .i64) 3 w24 w.heap.size (fun _ => True) (.slice (some ⟨go13, 0, none⟩) y220.length co13) y223 := (by rw [hw, Ny223.out]; exact HP23.1); clear HP23; have n0 := aM_ (blk_grown (g := gb212) (o := .cells #[.slice (some ad213) l0_0.length c0_0] 24 (0, 0)) (by (with_reducible repeat (first | refine bN_ ?_ _ | refine bD_ ?_ | refine bA_ ?_ _)); exact BK212.out) hg (Kd.R_ne HO222.out BK212.out (by decide))); have n1 := aM_ (hp_); have n2 := aM_ ((by rw [hw]; exact below_set (HB.out) GB13.out : Below w.heap.size w w24)); clear BK212; clear HO222; clear HB; have BK212 := n0; have HO222 := n1; have HB := n2; clear n0 n1 n2; clear hg hw hp_; have p224 : 0 ≤ (t216 : Int) := of_decide_eq_true (by first | (with_reducible assumption) | assumption); have q224 : t216 < ((rd_L4 l0_0 a2).length : Int) := of_decide_eq_true (by first | (with_reducible assumption) | assumption); obtain ⟨ad224, A224_1, c224_1, e224, hx224_0, hx224_1, hl224_1, hi224_1⟩ := at_T43 HR213_0.out t216 p224 q224; cases e224; replace hx224_0 := cB_ HB.out hx224_0; replace hx224_1 := cB_ HB.out hx224_1; have HR224_1 := aM_ hi224_1; have HC224_1 := aM_ hl224_1; clear hi224_1 hl224_1; replace p224 := eq_true p224; replace q224 := eq_true q224) | (go_at_call 96; refine calls_of_args (args' := #[.slice (some ⟨go13, 0, none⟩) y223.length co13, .slice A224_1 ((rd_T43 (rd_L4 l0_0 a2) t216).f1).length c224_1]) (by first | (rw [show y223.length = y220.length from (Kd.R_reads' HO222.out).1.symm] <;> rfl) | rfl) ?_; (with_reducible refine (spec_Join.calls k _ _ y223 _ _ ((rd_T43 (rd_L4 l0_0 a2) t216).f1) t225 _ ?side1 ?side2 ?side3 ?side4 A17.out).mono ?_); (case side1 => exact cS_ (Kd.R_reads' HO222.out).2.2); (case side2 => rw [show y223.length = y220.length from (Kd.R_reads' HO222.out).1.symm]; exact (Kd.R_reads' HO222.out).2.1); (case side3 => exact cS_ (Kd.C_below HR224_1.out HB.out)); (case side4 => exact HC224_1.out); rintro e w25 ⟨v226, rfl, ho0, hb⟩; have n0 := aM_ (Kd.R_elder' (by (with_reducible repeat (first | apply rA_ | apply rN_ | apply rD_)); exact HO222.out) (Kd.R_base ho0) hb); have n1 := aM_ (Kd.R_lower (Kd.R_new' ho0 (Kd.R_lt (by (with_reducible repeat (first | apply rA_ | apply rN_ | apply rD_)); exact HO222.out))) (below_size (gB_ HB.out))); have n2 := aM_ (nB_ BK212.out hb); have n3 := aM_ (sT_ HB.out hb); clear HO222; clear BK212; clear HB; have HO222 := n0; have HO227 := n1; have BK212 := n2; have HB := n3; clear n0 n1 n2 n3; (try clear ho0); have p228 : 0 ≤ (t216 : Int) := of_decide_eq_true (by first | (with_reducible assumption) | assumption); have q228 : t216 < ((rd_L4 l0_0 a2).length : Int) := of_decide_eq_true (by first | (with_reducible assumption) | assumption); obtain ⟨ad228, A228_1, c228_1, e228, hx228_0, hx228_1, hl228_1, hi228_1⟩ := at_T43 HR213_0.out t216 p228 q228; obtain rfl : ad224 = ad228 := (by injection e228); replace hx228_0 := cB_ HB.out hx228_0; replace hx228_1 := cB_ HB.out hx228_1; have HR228_1 := aM_ hi228_1; have HC228_1 := aM_ hl228_1; clear hi228_1 hl228_1; replace p228 := eq_true p228; replace q228 := eq_true q228))
         repeat (go_quiet (first | ((with_reducible refine gate_dst (N := 5) rfl ?_); refine bX_ 5 (cs := #[.slice A0_0 l0_0.length c0_0]) (t := 24) ?_; intro gb212 hg w18 hbox hb; have n0 := aM_ (sT_ HB.out hb); have n1 := aM_ (hbox); have n2 := aM_ (sZ_ hg HB.out); have n3 := aM_ (sZ_ hg HB.out); clear HB; have HB := n0; have BK212 := n1; have GW212 := n2; have GE212 := n3; clear n0 n1 n2 n3; clear hb hbox hg; have hcz19_0 : w18.cell? ⟨gb212, 0, none⟩ = some (.slice A0_0 l0_0.length c0_0) := (blk_cell BK212.out 0).trans rfl; have hfz19_0 := blk_frozen BK212.out 0; have p213 : 0 ≤ (a2 : Int) := of_decide_eq_true (by first | (with_reducible assumption) | assumption); have q213 : a2 < (l0_0.length : Int) := of_decide_eq_true (by first | (with_reducible assumption) | assumption); obtain ⟨ad213, A213_0, c213_0, e213, hx213_0, hl213_0, hi213_0⟩ := at_L4 HR0_0.out a2 p213 q213; cases e213; replace hx213_0 := cB_ HB.out hx213_0; have HR213_0 := aM_ hi213_0; have HC213_0 := aM_ hl213_0; clear hi213_0 hl213_0; replace p213 := eq_true p213; replace q213 := eq_true q213; have p215 : 0 ≤ (a2 : Int) := of_decide_eq_true (by first | (with_reducible assumption) | assumption); have q215 : a2 < (l1.length : Int) := of_decide_eq_true (by first | (with_reducible assumption) | assumption); obtain ⟨ad215, e215, hx215_0⟩ := Kd.at_int HR1.out a2 p215 q215; cases e215; replace hx215_0 := cB_ HB.out hx215_0; replace p215 := eq_true p215; replace q215 := eq_true q215) | (go_at_call 95; (with_reducible refine (spec_l1Max.calls a3 0 t214 _ A8.out).mono ?_); rintro e w' ⟨rfl, ⟨nd, rfl⟩⟩; (try first | exact ⟨rfl, _, World.drewN_drewN _ _ _⟩ | exact ⟨rfl, _, Eq.trans (World.drewN_drewN _ _ _) (congrArg (World.drewN _) (Nat.add_assoc _ _ _))⟩)) | (go_at_call 95; (with_reducible refine (spec_l1Max.calls (wrap64 ((wrap64 (((rd_L4 l0_0 a2).length : Int) - 1)) - t214)) (rd l1 a2) t216 _ A10.out).mono ?_); rintro e w' ⟨rfl, ⟨nd, rfl⟩⟩; (try first | exact ⟨rfl, _, World.drewN_drewN _ _ _⟩ | exact ⟨rfl, _, Eq.trans (World.drewN_drewN _ _ _) (congrArg (World.drewN _) (Nat.add_assoc _ _ _))⟩)) | ((with_reducible refine gate_dst (N := 31) rfl ?_); refine Kd.R_lit (Kd.int .i64) _ 3 ?hg (N := 31) ?hd (xs := ([] : List Int)) (inner := []) (ok := fun _ => True) (okp := fun _ => True) ?hr ?hp (fun _ hk => hk) trivial (Below.refl _ _) (Nat.le_refl _) (by simp) ?_; (case hd => rfl); (case hg => rfl); (case hr => first | (go_simp; done) | (go_simp; rfl)); (case hp => exact (Reps.none _ _)); intro v218 w20 ho21 hb hg_ hnew_; clear hg_ hnew_; (first | rw [← Ny217.out] at ho21 | (simp only [Int.reduceToNat] at ho21; rw [← Ny217.out] at ho21)); have n0 := aM_ (Kd.R_lower ho21 (below_size (gB_ HB.out))); have n1 := aM_ (nB_ BK212.out hb); have n2 := aM_ (sT_ HB.out hb); clear BK212; clear HB; have HO219 := n0; have BK212 := n1; have HB := n2; clear n0 n1 n2; clear hb ho21) | ((with_reducible refine gate_builtin (b := .append) (xs := #[.tmp 31, .tmp 32]) rfl ?_); at_builtin; refine Kd.R_append_rows (Kd.int .i64) (w0 := w) w.heap.size rfl (.tmp 31) (.tmp 32) 31 3 (.int .i64 0) 8 rfl Try.underlying31 info3 rfl (by decide) (by omega) v218 y217 l1 _ _ _ (fun _ => True) (fun _ => False) rfl rfl ?aO ?aR (fun _ _ h => h) (fun _ h => h.elim) ?aF ?aB ?aS ?aL ?_; (case aR => repeat (first | exact (Kd.C_below HR1.out HB.out) | (with_reducible refine Kd.C_alloc ?_ _) | (with_reducible refine Kd.C_drewN ?_ _) | (with_reducible refine Kd.C_drew ?_))); (case aB => exact (gB_ HB.out)); (case aF => exact (fun _ _ => trivial)); (case aO => exact (by (with_reducible repeat (first | apply rA_ | apply rN_ | apply rD_)); exact HO219.out)); (case aS => exact (below_size (gB_ HB.out))); (case aL => have := LMc11.out; omega); intro v221 w22 ho hb hg hat; rw [← Ny220.out] at ho; have n0 := aM_ (blk_grown (g := gb212) (o := .cells #[.slice (some ad213) l0_0.length c0_0] 24 (0, 0)) (by (with_reducible repeat (first | refine bN_ ?_ _ | refine bD_ ?_ | refine bA_ ?_ _)); exact BK212.out) hg (Kd.R_ne HO219.out BK212.out (by decide))); have n1 := aM_ (hb); have n2 := aM_ (ho); clear BK212; clear HB; clear HO219; have BK212 := n0; have HB := n1; have HO222 := n2; clear n0 n1 n2; clear ho hb hg hat; have p13 : 0 ≤ (a2 : Int) := of_decide_eq_true (by first | (with_reducible assumption) | assumption); have q13 : (a2 : Int) < ((y220.length : Int) : Int) := of_decide_eq_true (by first | (with_reducible assumption) | assumption); obtain ⟨go13, co13, eo13, gb13, gl13, cl13, HG13⟩ := Kd.R_form HO222.out (by omega); (first | cases eo13 | (injection eo13 with ea_ en_ ec_; (first | subst ea_ | (injection ea_ with ea_; subst ea_)); subst ec_; clear en_)); have GB13 := aM_ gb13; have GG13 := aM_ HG13; clear gb13 gl13 HG13; obtain ⟨hx13_0, hf13_0⟩ := Kd.R_celln 0 HO222.out (a2 : Int) p13 q13; replace p13 := eq_true p13; replace q13 := eq_true q13; obtain ⟨hy23_, hz23_⟩ := Kd.R_celln 0 HO222.out (a2 : Int) (of_decide_eq_true (by first | (with_reducible assumption) | assumption)) (of_decide_eq_true (by first | (with_reducible assumption) | assumption)); have HP23 := Kd.R_putg HO222.out (a2 : Int) t216) | ((with_reducible refine gate_store (t := 3) (p := 37) rfl ?_); (try (rw [drewN_self w22]; generalize hq_ : World.drewN w22 _ = w22; have n0 := aM_ (Kd.R_at hq_ HO222.out); have n1 := aM_ (blk_at hq_ BK212.out); have n2 := aM_ (below_at hq_ HB.out); clear hq_ HO222 BK212 HB; have HO222 := n0; have BK212 := n1; have HB := n2; clear n0 n1 n2; (try (obtain ⟨hy23_, hz23_⟩ := Kd.R_celln 0 HO222.out (a2 : Int) (of_decide_eq_true (by first | (with_reducible assumption) | assumption)) (of_decide_eq_true (by first | (with_reducible assumption) | assumption)))); (try (have HP23 := Kd.R_putg HO222.out (a2 : Int) t216)))); refine store_event (t := 3) (p := 37) (v := ?vo_w24) (w1 := (w22.setCell ⟨go13, (a2 : Int).toNat, none⟩ (.int .i64 t216))) ?hg ?ho ?hn ?hr ?_; (case ho => rfl); (case hg => rfl); (case hn => rfl); (case hr => first | (go_simp; done) | (go_simp; rfl)); intro w24 hw; have hg : w22.grownBy w24 (some go13) := (by rw [hw]; exact HP23.2); have hp_ : Kd.R (Kd.int .i64) 3 w24 w.heap.size (fun _ => True) (.slice (some ⟨go13, 0, none⟩) y220.length co13) y223 := (by rw [hw, Ny223.out]; exact HP23.1); clear HP23; have n0 := aM_ (blk_grown (g := gb212) (o := .cells #[.slice (some ad213) l0_0.length c0_0] 24 (0, 0)) (by (with_reducible repeat (first | refine bN_ ?_ _ | refine bD_ ?_ | refine bA_ ?_ _)); exact BK212.out) hg (Kd.R_ne HO222.out BK212.out (by decide))); have n1 := aM_ (hp_); have n2 := aM_ ((by rw [hw]; exact below_set (HB.out) GB13.out : Below w.heap.size w w24)); clear BK212; clear HO222; clear HB; have BK212 := n0; have HO222 := n1; have HB := n2; clear n0 n1 n2; clear hg hw hp_; have p224 : 0 ≤ (t216 : Int) := of_decide_eq_true (by first | (with_reducible assumption) | assumption); have q224 : t216 < ((rd_L4 l0_0 a2).length : Int) := of_decide_eq_true (by first | (with_reducible assumption) | assumption); obtain ⟨ad224, A224_1, c224_1, e224, hx224_0, hx224_1, hl224_1, hi224_1⟩ := at_T43 HR213_0.out t216 p224 q224; cases e224; replace hx224_0 := cB_ HB.out hx224_0; replace hx224_1 := cB_ HB.out hx224_1; have HR224_1 := aM_ hi224_1; have HC224_1 := aM_ hl224_1; clear hi224_1 hl224_1; replace p224 := eq_true p224; replace q224 := eq_true q224) | (go_at_call 96; refine calls_of_args (args' := #[.slice (some ⟨go13, 0, none⟩) y223.length co13, .slice A224_1 ((rd_T43 (rd_L4 l0_0 a2) t216).f1).length c224_1]) (by first | (rw [show y223.length = y220.length from (Kd.R_reads' HO222.out).1.symm] <;> rfl) | rfl) ?_; (with_reducible refine (spec_Join.calls k _ _ y223 _ _ ((rd_T43 (rd_L4 l0_0 a2) t216).f1) t225 _ ?side1 ?side2 ?side3 ?side4 A17.out).mono ?_); (case side1 => exact cS_ (Kd.R_reads' HO222.out).2.2); (case side2 => rw [show y223.length = y220.length from (Kd.R_reads' HO222.out).1.symm]; exact (Kd.R_reads' HO222.out).2.1); (case side3 => exact cS_ (Kd.C_below HR224_1.out HB.out)); (case side4 => exact HC224_1.out); rintro e w25 ⟨v226, rfl, ho0, hb⟩; have n0 := aM_ (Kd.R_elder' (by (with_reducible repeat (first | apply rA_ | apply rN_ | apply rD_)); exact HO222.out) (Kd.R_base ho0) hb); have n1 := aM_ (Kd.R_lower (Kd.R_new' ho0 (Kd.R_lt (by (with_reducible repeat (first | apply rA_ | apply rN_ | apply rD_)); exact HO222.out))) (below_size (gB_ HB.out))); have n2 := aM_ (nB_ BK212.out hb); have n3 := aM_ (sT_ HB.out hb); clear HO222; clear BK212; clear HB; have HO222 := n0; have HO227 := n1; have BK212 := n2; have HB := n3; clear n0 n1 n2 n3; (try clear ho0); have p228 : 0 ≤ (t216 : Int) := of_decide_eq_true (by first | (with_reducible assumption) | assumption); have q228 : t216 < ((rd_L4 l0_0 a2).length : Int) := of_decide_eq_true (by first | (with_reducible assumption) | assumption); obtain ⟨ad228, A228_1, c228_1, e228, hx228_0, hx228_1, hl228_1, hi228_1⟩ := at_T43 HR213_0.out t216 p228 q228; obtain rfl : ad224 = ad228 := (by injection e228); replace hx228_0 := cB_ HB.out hx228_0; replace hx228_1 := cB_ HB.out hx228_1; have HR228_1 := aM_ hi228_1; have HC228_1 := aM_ hl228_1; clear hi228_1 hl228_1; replace p228 := eq_true p228; replace q228 := eq_true q228)); try go_wp2_with (first | ((with_reducible refine gate_dst (N := 5) rfl ?_); refine bX_ 5 (cs := #[.slice A0_0 l0_0.length c0_0]) (t := 24) ?_; intro gb212 hg w18 hbox hb; have n0 := aM_ (sT_ HB.out hb); have n1 := aM_ (hbox); have n2 := aM_ (sZ_ hg HB.out); have n3 := aM_ (sZ_ hg HB.out); clear HB; have HB := n0; have BK212 := n1; have GW212 := n2; have GE212 := n3; clear n0 n1 n2 n3; clear hb hbox hg; have hcz19_0 : w18.cell? ⟨gb212, 0, none⟩ = some (.slice A0_0 l0_0.length c0_0) := (blk_cell BK212.out 0).trans rfl; have hfz19_0 := blk_frozen BK212.out 0; have p213 : 0 ≤ (a2 : Int) := of_decide_eq_true (by first | (with_reducible assumption) | assumption); have q213 : a2 < (l0_0.length : Int) := of_decide_eq_true (by first | (with_reducible assumption) | assumption); obtain ⟨ad213, A213_0, c213_0, e213, hx213_0, hl213_0, hi213_0⟩ := at_L4 HR0_0.out a2 p213 q213; cases e213; replace hx213_0 := cB_ HB.out hx213_0; have HR213_0 := aM_ hi213_0; have HC213_0 := aM_ hl213_0; clear hi213_0 hl213_0; replace p213 := eq_true p213; replace q213 := eq_true q213) | (go_at_call 95; (with_reducible refine (spec_l1Max.calls a3 0 t214 _ A8.out).mono ?_); rintro e w' ⟨rfl, ⟨nd, rfl⟩⟩; (try first | exact ⟨rfl, _, World.drewN_drewN _ _ _⟩ | exact ⟨rfl, _, Eq.trans (World.drewN_drewN _ _ _) (congrArg (World.drewN _) (Nat.add_assoc _ _ _))⟩); have p215 : 0 ≤ (a2 : Int) := of_decide_eq_true (by first | (with_reducible assumption) | assumption); have q215 : a2 < (l1.length : Int) := of_decide_eq_true (by first | (with_reducible assumption) | assumption); obtain ⟨ad215, e215, hx215_0⟩ := Kd.at_int HR1.out a2 p215 q215; cases e215; replace hx215_0 := cB_ HB.out hx215_0; replace p215 := eq_true p215; replace q215 := eq_true q215) | (go_at_call 95; (with_reducible refine (spec_l1Max.calls (wrap64 ((wrap64 (((rd_L4 l0_0 a2).length : Int) - 1)) - t214)) (rd l1 a2) t216 _ A10.out).mono ?_); rintro e w' ⟨rfl, ⟨nd, rfl⟩⟩; (try first | exact ⟨rfl, _, World.drewN_drewN _ _ _⟩ | exact ⟨rfl, _, Eq.trans (World.drewN_drewN _ _ _) (congrArg (World.drewN _) (Nat.add_assoc _ _ _))⟩)) | ((with_reducible refine gate_dst (N := 31) rfl ?_); refine Kd.R_lit (Kd.int .i64) _ 3 ?hg (N := 31) ?hd (xs := ([] : List Int)) (inner := []) (ok := fun _ => True) (okp := fun _ => True) ?hr ?hp (fun _ hk => hk) trivial (Below.refl _ _) (Nat.le_refl _) (by simp) ?_; (case hd => rfl); (case hg => rfl); (case hr => first | (go_simp; done) | (go_simp; rfl)); (case hp => exact (Reps.none _ _)); intro v218 w20 ho21 hb hg_ hnew_; clear hg_ hnew_; (first | rw [← Ny217.out] at ho21 | (simp only [Int.reduceToNat] at ho21; rw [← Ny217.out] at ho21)); have n0 := aM_ (Kd.R_lower ho21 (below_size (gB_ HB.out))); have n1 := aM_ (nB_ BK212.out hb); have n2 := aM_ (sT_ HB.out hb); clear BK212; clear HB; have HO219 := n0; have BK212 := n1; have HB := n2; clear n0 n1 n2; clear hb ho21) | ((with_reducible refine gate_builtin (b := .append) (xs := #[.tmp 31, .tmp 32]) rfl ?_); at_builtin; refine Kd.R_append_rows (Kd.int .i64) (w0 := w) w.heap.size rfl (.tmp 31) (.tmp 32) 31 3 (.int .i64 0) 8 rfl Try.underlying31 info3 rfl (by decide) (by omega) v218 y217 l1 _ _ _ (fun _ => True) (fun _ => False) rfl rfl ?aO ?aR (fun _ _ h => h) (fun _ h => h.elim) ?aF ?aB ?aS ?aL ?_; (case aR => repeat (first | exact (Kd.C_below HR1.out HB.out) | (with_reducible refine Kd.C_alloc ?_ _) | (with_reducible refine Kd.C_drewN ?_ _) | (with_reducible refine Kd.C_drew ?_))); (case aB => exact (gB_ HB.out)); (case aF => exact (fun _ _ => trivial)); (case aO => exact (by (with_reducible repeat (first | apply rA_ | apply rN_ | apply rD_)); exact HO219.out)); (case aS => exact (below_size (gB_ HB.out))); (case aL => have := LMc11.out; omega); intro v221 w22 ho hb hg hat; rw [← Ny220.out] at ho; have n0 := aM_ (blk_grown (g := gb212) (o := .cells #[.slice (some ad213) l0_0.length c0_0] 24 (0, 0)) (by (with_reducible repeat (first | refine bN_ ?_ _ | refine bD_ ?_ | refine bA_ ?_ _)); exact BK212.out) hg (Kd.R_ne HO219.out BK212.out (by decide))); have n1 := aM_ (hb); have n2 := aM_ (ho); clear BK212; clear HB; clear HO219; have BK212 := n0; have HB := n1; have HO222 := n2; clear n0 n1 n2; clear ho hb hg hat; have p13 : 0 ≤ (a2 : Int) := of_decide_eq_true (by first | (with_reducible assumption) | assumption); have q13 : (a2 : Int) < ((y220.length : Int) : Int) := of_decide_eq_true (by first | (with_reducible assumption) | assumption); obtain ⟨go13, co13, eo13, gb13, gl13, cl13, HG13⟩ := Kd.R_form HO222.out (by omega); (first | cases eo13 | (injection eo13 with ea_ en_ ec_; (first | subst ea_ | (injection ea_ with ea_; subst ea_)); subst ec_; clear en_)); have GB13 := aM_ gb13; have GG13 := aM_ HG13; clear gb13 gl13 HG13; obtain ⟨hx13_0, hf13_0⟩ := Kd.R_celln 0 HO222.out (a2 : Int) p13 q13; replace p13 := eq_true p13; replace q13 := eq_true q13; obtain ⟨hy23_, hz23_⟩ := Kd.R_celln 0 HO222.out (a2 : Int) (of_decide_eq_true (by first | (with_reducible assumption) | assumption)) (of_decide_eq_true (by first | (with_reducible assumption) | assumption)); have HP23 := Kd.R_putg HO222.out (a2 : Int) t216) | ((with_reducible refine gate_store (t := 3) (p := 37) rfl ?_); (try (rw [drewN_self w22]; generalize hq_ : World.drewN w22 _ = w22; have n0 := aM_ (Kd.R_at hq_ HO222.out); have n1 := aM_ (blk_at hq_ BK212.out); have n2 := aM_ (below_at hq_ HB.out); clear hq_ HO222 BK212 HB; have HO222 := n0; have BK212 := n1; have HB := n2; clear n0 n1 n2; (try (obtain ⟨hy23_, hz23_⟩ := Kd.R_celln 0 HO222.out (a2 : Int) (of_decide_eq_true (by first | (with_reducible assumption) | assumption)) (of_decide_eq_true (by first | (with_reducible assumption) | assumption)))); (try (have HP23 := Kd.R_putg HO222.out (a2 : Int) t216)))); refine store_event (t := 3) (p := 37) (v := ?vo_w24) (w1 := (w22.setCell ⟨go13, (a2 : Int).toNat, none⟩ (.int .i64 t216))) ?hg ?ho ?hn ?hr ?_; (case ho => rfl); (case hg => rfl); (case hn => rfl); (case hr => first | (go_simp; done) | (go_simp; rfl)); intro w24 hw; have hg : w22.grownBy w24 (some go13) := (by rw [hw]; exact HP23.2); have hp_ : Kd.R (Kd.int .i64) 3 w24 w.heap.size (fun _ => True) (.slice (some ⟨go13, 0, none⟩) y220.length co13) y223 := (by rw [hw, Ny223.out]; exact HP23.1); clear HP23; have n0 := aM_ (blk_grown (g := gb212) (o := .cells #[.slice (some ad213) l0_0.length c0_0] 24 (0, 0)) (by (with_reducible repeat (first | refine bN_ ?_ _ | refine bD_ ?_ | refine bA_ ?_ _)); exact BK212.out) hg (Kd.R_ne HO222.out BK212.out (by decide))); have n1 := aM_ (hp_); have n2 := aM_ ((by rw [hw]; exact below_set (HB.out) GB13.out : Below w.heap.size w w24)); clear BK212; clear HO222; clear HB; have BK212 := n0; have HO222 := n1; have HB := n2; clear n0 n1 n2; clear hg hw hp_; have p224 : 0 ≤ (t216 : Int) := of_decide_eq_true (by first | (with_reducible assumption) | assumption); have q224 : t216 < ((rd_L4 l0_0 a2).length : Int) := of_decide_eq_true (by first | (with_reducible assumption) | assumption); obtain ⟨ad224, A224_1, c224_1, e224, hx224_0, hx224_1, hl224_1, hi224_1⟩ := at_T43 HR213_0.out t216 p224 q224; cases e224; replace hx224_0 := cB_ HB.out hx224_0; replace hx224_1 := cB_ HB.out hx224_1; have HR224_1 := aM_ hi224_1; have HC224_1 := aM_ hl224_1; clear hi224_1 hl224_1; replace p224 := eq_true p224; replace q224 := eq_true q224) | (go_at_call 96; refine calls_of_args (args' := #[.slice (some ⟨go13, 0, none⟩) y223.length co13, .slice A224_1 ((rd_T43 (rd_L4 l0_0 a2) t216).f1).length c224_1]) (by first | (rw [show y223.length = y220.length from (Kd.R_reads' HO222.out).1.symm] <;> rfl) | rfl) ?_; (with_reducible refine (spec_Join.calls k _ _ y223 _ _ ((rd_T43 (rd_L4 l0_0 a2) t216).f1) t225 _ ?side1 ?side2 ?side3 ?side4 A17.out).mono ?_); (case side1 => exact cS_ (Kd.R_reads' HO222.out).2.2); (case side2 => rw [show y223.length = y220.length from (Kd.R_reads' HO222.out).1.symm]; exact (Kd.R_reads' HO222.out).2.1); (case side3 => exact cS_ (Kd.C_below HR224_1.out HB.out)); (case side4 => exact HC224_1.out); rintro e w25 ⟨v226, rfl, ho0, hb⟩; have n0 := aM_ (Kd.R_elder' (by (with_reducible repeat (first | apply rA_ | apply rN_ | apply rD_)); exact HO222.out) (Kd.R_base ho0) hb); have n1 := aM_ (Kd.R_lower (Kd.R_new' ho0 (Kd.R_lt (by (with_reducible repeat (first | apply rA_ | apply rN_ | apply rD_)); exact HO222.out))) (below_size (gB_ HB.out))); have n2 := aM_ (nB_ BK212.out hb); have n3 := aM_ (sT_ HB.out hb); clear HO222; clear BK212; clear HB; have HO222 := n0; have HO227 := n1; have BK212 := n2; have HB := n3; clear n0 n1 n2 n3; (try clear ho0); have p228 : 0 ≤ (t216 : Int) := of_decide_eq_true (by first | (with_reducible assumption) | assumption); have q228 : t216 < ((rd_L4 l0_0 a2).length : Int) := of_decide_eq_true (by first | (with_reducible assumption) | assumption); obtain ⟨ad228, A228_1, c228_1, e228, hx228_0, hx228_1, hl228_1, hi228_1⟩ := at_T43 HR213_0.out t216 p228 q228; obtain rfl : ad224 = ad228 := (by injection e228); replace hx228_0 := cB_ HB.out hx228_0; replace hx228_1 := cB_ HB.out hx228_1; have HR228_1 := aM_ hi228_1; have HC228_1 := aM_ hl228_1; clear hi228_1 hl228_1; replace p228 := eq_true p228; replace q228 := eq_true q228)))
         go_ret2
         exact ⟨_, fR_, by (with_reducible repeat (first | apply rA_ | apply rN_ | apply rD_)); exact Kd.R_mono HO227.out (fun _ hk => trivial), gB_ HB.out⟩
        ·rw [if_neg c16] at H
         exact absurd H (by simp)
       ·rw [if_neg c15] at H
        exact absurd H (by simp)
      ·replace c14 := Bool.eq_false_iff.mpr c14
       subst c14
       have H1 : (if 0 ≤ t216 then (if t216 < ((rd_L4 l0_0 a2).length : Int) then (some ((rd_T43 (rd_L4 l0_0 a2) t216).f0, y223)) else (none)) else (none)) = some (r1, r2) := by rw [if_neg (show ¬ (false = true) by decide)] at H; exact H
       clear H
       have H := H1
       clear H1
       by_cases c26 : 0 ≤ t216
       ·rw [if_pos c26] at H
        have c26b0 : decide (0 ≤ t216) = true := decide_eq_true c26
        clear c26
        by_cases c27 : t216 < ((rd_L4 l0_0 a2).length : Int)
        ·rw [if_pos c27] at H
         have c27b0 : decide (t216 < ((rd_L4 l0_0 a2).length : Int)) = true := decide_eq_true c27
         clear c27
         simp only [Option.some.injEq, Prod.mk.injEq] at H
         obtain ⟨rfl, rfl⟩ := H
         go_enter Try.func62, Try.ntmps62
         go_wp2_with (first | ((with_reducible refine gate_dst (N := 5) rfl ?_); refine bX_ 5 (cs := #[.slice A0_0 l0_0.length c0_0]) (t := 24) ?_; intro gb212 hg w28 hbox hb; have n0 := aM_ (sT_ HB.out hb); have n1 := aM_ (hbox); have n2 := aM_ (sZ_ hg HB.out); have n3 := aM_ (sZ_ hg HB.out); clear HB; have HB := n0; have BK212 := n1; have GW212 := n2; have GE212 := n3; clear n0 n1 n2 n3; clear hb hbox hg; have hcz29_0 : w28.cell? ⟨gb212, 0, none⟩ = some (.slice A0_0 l0_0.length c0_0) := (blk_cell BK212.out 0).trans rfl; have hfz29_0 := blk_frozen BK212.out 0; have p213 : 0 ≤ (a2 : Int) := of_decide_eq_true (by first | (with_reducible assumption) | assumption); have q213 : a2 < (l0_0.length : Int) := of_decide_eq_true (by first | (with_reducible assumption) | assumption); obtain ⟨ad213, A213_0, c213_0, e213, hx213_0, hl213_0, hi213_0⟩ := at_L4 HR0_0.out a2 p213 q213; cases e213; replace hx213_0 := cB_ HB.out hx213_0; have HR213_0 := aM_ hi213_0; have HC213_0 := aM_ hl213_0; clear hi213_0 hl213_0; replace p213 := eq_true p213; replace q213 := eq_true q213; have p215 : 0 ≤ (a2 : Int) := of_decide_eq_true (by first | (with_reducible assumption) | assumption); have q215 : a2 < (l1.length : Int) := of_decide_eq_true (by first | (with_reducible assumption) | assumption); obtain ⟨ad215, e215, hx215_0⟩ := Kd.at_int HR1.out a2 p215 q215; cases e215; replace hx215_0 := cB_ HB.out hx215_0; replace p215 := eq_true p215; replace q215 := eq_true q215) | (go_at_call 95; (with_reducible refine (spec_l1Max.calls a3 0 t214 _ A8.out).mono ?_); rintro e w' ⟨rfl, ⟨nd, rfl⟩⟩; (try first | exact ⟨rfl, _, World.drewN_drewN _ _ _⟩ | exact ⟨rfl, _, Eq.trans (World.drewN_drewN _ _ _) (congrArg (World.drewN _) (Nat.add_assoc _ _ _))⟩)) | (go_at_call 95; (with_reducible refine (spec_l1Max.calls (wrap64 ((wrap64 (((rd_L4 l0_0 a2).length : Int) - 1)) - t214)) (rd l1 a2) t216 _ A10.out).mono ?_); rintro e w' ⟨rfl, ⟨nd, rfl⟩⟩; (try first | exact ⟨rfl, _, World.drewN_drewN _ _ _⟩ | exact ⟨rfl, _, Eq.trans (World.drewN_drewN _ _ _) (congrArg (World.drewN _) (Nat.add_assoc _ _ _))⟩)) | ((with_reducible refine gate_dst (N := 31) rfl ?_); refine Kd.R_lit (Kd.int .i64) _ 3 ?hg (N := 31) ?hd (xs := ([] : List Int)) (inner := []) (ok := fun _ => True) (okp := fun _ => True) ?hr ?hp (fun _ hk => hk) trivial (Below.refl _ _) (Nat.le_refl _) (by simp) ?_; (case hd => rfl); (case hg => rfl); (case hr => first | (go_simp; done) | (go_simp; rfl)); (case hp => exact (Reps.none _ _)); intro v218 w30 ho31 hb hg_ hnew_; clear hg_ hnew_; (first | rw [← Ny217.out] at ho31 | (simp only [Int.reduceToNat] at ho31; rw [← Ny217.out] at ho31)); have n0 := aM_ (Kd.R_lower ho31 (below_size (gB_ HB.out))); have n1 := aM_ (nB_ BK212.out hb); have n2 := aM_ (sT_ HB.out hb); clear BK212; clear HB; have HO219 := n0; have BK212 := n1; have HB := n2; clear n0 n1 n2; clear hb ho31) | ((with_reducible refine gate_builtin (b := .append) (xs := #[.tmp 31, .tmp 32]) rfl ?_); at_builtin; refine Kd.R_append_rows (Kd.int .i64) (w0 := w) w.heap.size rfl (.tmp 31) (.tmp 32) 31 3 (.int .i64 0) 8 rfl Try.underlying31 info3 rfl (by decide) (by omega) v218 y217 l1 _ _ _ (fun _ => True) (fun _ => False) rfl rfl ?aO ?aR (fun _ _ h => h) (fun _ h => h.elim) ?aF ?aB ?aS ?aL ?_; (case aR => repeat (first | exact (Kd.C_below HR1.out HB.out) | (with_reducible refine Kd.C_alloc ?_ _) | (with_reducible refine Kd.C_drewN ?_ _) | (with_reducible refine Kd.C_drew ?_))); (case aB => exact (gB_ HB.out)); (case aF => exact (fun _ _ => trivial)); (case aO => exact (by (with_reducible repeat (first | apply rA_ | apply rN_ | apply rD_)); exact HO219.out)); (case aS => exact (below_size (gB_ HB.out))); (case aL => have := LMc11.out; omega); intro v221 w32 ho hb hg hat; rw [← Ny220.out] at ho; have n0 := aM_ (blk_grown (g := gb212) (o := .cells #[.slice (some ad213) l0_0.length c0_0] 24 (0, 0)) (by (with_reducible repeat (first | refine bN_ ?_ _ | refine bD_ ?_ | refine bA_ ?_ _)); exact BK212.out) hg (Kd.R_ne HO219.out BK212.out (by decide))); have n1 := aM_ (hb); have n2 := aM_ (ho); clear BK212; clear HB; clear HO219; have BK212 := n0; have HB := n1; have HO222 := n2; clear n0 n1 n2; clear ho hb hg hat; have p13 : 0 ≤ (a2 : Int) := of_decide_eq_true (by first | (with_reducible assumption) | assumption); have q13 : (a2 : Int) < ((y220.length : Int) : Int) := of_decide_eq_true (by first | (with_reducible assumption) | assumption); obtain ⟨go13, co13, eo13, gb13, gl13, cl13, HG13⟩ := Kd.R_form HO222.out (by omega); (first | cases eo13 | (injection eo13 with ea_ en_ ec_; (first | subst ea_ | (injection ea_ with ea_; subst ea_)); subst ec_; clear en_)); have GB13 := aM_ gb13; have GG13 := aM_ HG13; clear gb13 gl13 HG13; obtain ⟨hx13_0, hf13_0⟩ := Kd.R_celln 0 HO222.out (a2 : Int) p13 q13; replace p13 := eq_true p13; replace q13 := eq_true q13; obtain ⟨hy33_, hz33_⟩ := Kd.R_celln 0 HO222.out (a2 : Int) (of_decide_eq_true (by first | (with_reducible assumption) | assumption)) (of_decide_eq_true (by first | (with_reducible assumption) | assumption)); have HP33 := Kd.R_putg HO222.out (a2 : Int) t216) | ((with_reducible refine gate_store (t := 3) (p := 37) rfl ?_); (try (rw [drewN_self w32]; generalize hq_ : World.drewN w32 _ = w32; have n0 := aM_ (Kd.R_at hq_ HO222.out); have n1 := aM_ (blk_at hq_ BK212.out); have n2 := aM_ (below_at hq_ HB.out); clear hq_ HO222 BK212 HB; have HO222 := n0; have BK212 := n1; have HB := n2; clear n0 n1 n2; (try (obtain ⟨hy33_, hz33_⟩ := Kd.R_celln 0 HO222.out (a2 : Int) (of_decide_eq_true (by first | (with_reducible assumption) | assumption)) (of_decide_eq_true (by first | (with_reducible assumption) | assumption)))); (try (have HP33 := Kd.R_putg HO222.out (a2 : Int) t216)))); refine store_event (t := 3) (p := 37) (v := ?vo_w34) (w1 := (w32.setCell ⟨go13, (a2 : Int).toNat, none⟩ (.int .i64 t216))) ?hg ?ho ?hn ?hr ?_; (case ho => rfl); (case hg => rfl); (case hn => rfl); (case hr => first | (go_simp; done) | (go_simp; rfl)); intro w34 hw; have hg : w32.grownBy w34 (some go13) := (by rw [hw]; exact HP33.2); have hp_ : Kd.R (Kd.int .i64) 3 w34 w.heap.size (fun _ => True) (.slice (some ⟨go13, 0, none⟩) y220.length co13) y223 := (by rw [hw, Ny223.out]; exact HP33.1); clear HP33; have n0 := aM_ (blk_grown (g := gb212) (o := .cells #[.slice (some ad213) l0_0.length c0_0] 24 (0, 0)) (by (with_reducible repeat (first | refine bN_ ?_ _ | refine bD_ ?_ | refine bA_ ?_ _)); exact BK212.out) hg (Kd.R_ne HO222.out BK212.out (by decide))); have n1 := aM_ (hp_); have n2 := aM_ ((by rw [hw]; exact below_set (HB.out) GB13.out : Below w.heap.size w w34)); clear BK212; clear HO222; clear HB; have BK212 := n0; have HO222 := n1; have HB := n2; clear n0 n1 n2; clear hg hw hp_; have p229 : 0 ≤ (t216 : Int) := of_decide_eq_true (by first | (with_reducible assumption) | assumption); have q229 : t216 < ((rd_L4 l0_0 a2).length : Int) := of_decide_eq_true (by first | (with_reducible assumption) | assumption); obtain ⟨ad229, A229_1, c229_1, e229, hx229_0, hx229_1, hl229_1, hi229_1⟩ := at_T43 HR213_0.out t216 p229 q229; cases e229; replace hx229_0 := cB_ HB.out hx229_0; replace hx229_1 := cB_ HB.out hx229_1; have HR229_1 := aM_ hi229_1; have HC229_1 := aM_ hl229_1; clear hi229_1 hl229_1; replace p229 := eq_true p229; replace q229 := eq_true q229))
         repeat (go_quiet (first | ((with_reducible refine gate_dst (N := 5) rfl ?_); refine bX_ 5 (cs := #[.slice A0_0 l0_0.length c0_0]) (t := 24) ?_; intro gb212 hg w28 hbox hb; have n0 := aM_ (sT_ HB.out hb); have n1 := aM_ (hbox); have n2 := aM_ (sZ_ hg HB.out); have n3 := aM_ (sZ_ hg HB.out); clear HB; have HB := n0; have BK212 := n1; have GW212 := n2; have GE212 := n3; clear n0 n1 n2 n3; clear hb hbox hg; have hcz29_0 : w28.cell? ⟨gb212, 0, none⟩ = some (.slice A0_0 l0_0.length c0_0) := (blk_cell BK212.out 0).trans rfl; have hfz29_0 := blk_frozen BK212.out 0; have p213 : 0 ≤ (a2 : Int) := of_decide_eq_true (by first | (with_reducible assumption) | assumption); have q213 : a2 < (l0_0.length : Int) := of_decide_eq_true (by first | (with_reducible assumption) | assumption); obtain ⟨ad213, A213_0, c213_0, e213, hx213_0, hl213_0, hi213_0⟩ := at_L4 HR0_0.out a2 p213 q213; cases e213; replace hx213_0 := cB_ HB.out hx213_0; have HR213_0 := aM_ hi213_0; have HC213_0 := aM_ hl213_0; clear hi213_0 hl213_0; replace p213 := eq_true p213; replace q213 := eq_true q213; have p215 : 0 ≤ (a2 : Int) := of_decide_eq_true (by first | (with_reducible assumption) | assumption); have q215 : a2 < (l1.length : Int) := of_decide_eq_true (by first | (with_reducible assumption) | assumption); obtain ⟨ad215, e215, hx215_0⟩ := Kd.at_int HR1.out a2 p215 q215; cases e215; replace hx215_0 := cB_ HB.out hx215_0; replace p215 := eq_true p215; replace q215 := eq_true q215) | (go_at_call 95; (with_reducible refine (spec_l1Max.calls a3 0 t214 _ A8.out).mono ?_); rintro e w' ⟨rfl, ⟨nd, rfl⟩⟩; (try first | exact ⟨rfl, _, World.drewN_drewN _ _ _⟩ | exact ⟨rfl, _, Eq.trans (World.drewN_drewN _ _ _) (congrArg (World.drewN _) (Nat.add_assoc _ _ _))⟩)) | (go_at_call 95; (with_reducible refine (spec_l1Max.calls (wrap64 ((wrap64 (((rd_L4 l0_0 a2).length : Int) - 1)) - t214)) (rd l1 a2) t216 _ A10.out).mono ?_); rintro e w' ⟨rfl, ⟨nd, rfl⟩⟩; (try first | exact ⟨rfl, _, World.drewN_drewN _ _ _⟩ | exact ⟨rfl, _, Eq.trans (World.drewN_drewN _ _ _) (congrArg (World.drewN _) (Nat.add_assoc _ _ _))⟩)) | ((with_reducible refine gate_dst (N := 31) rfl ?_); refine Kd.R_lit (Kd.int .i64) _ 3 ?hg (N := 31) ?hd (xs := ([] : List Int)) (inner := []) (ok := fun _ => True) (okp := fun _ => True) ?hr ?hp (fun _ hk => hk) trivial (Below.refl _ _) (Nat.le_refl _) (by simp) ?_; (case hd => rfl); (case hg => rfl); (case hr => first | (go_simp; done) | (go_simp; rfl)); (case hp => exact (Reps.none _ _)); intro v218 w30 ho31 hb hg_ hnew_; clear hg_ hnew_; (first | rw [← Ny217.out] at ho31 | (simp only [Int.reduceToNat] at ho31; rw [← Ny217.out] at ho31)); have n0 := aM_ (Kd.R_lower ho31 (below_size (gB_ HB.out))); have n1 := aM_ (nB_ BK212.out hb); have n2 := aM_ (sT_ HB.out hb); clear BK212; clear HB; have HO219 := n0; have BK212 := n1; have HB := n2; clear n0 n1 n2; clear hb ho31) | ((with_reducible refine gate_builtin (b := .append) (xs := #[.tmp 31, .tmp 32]) rfl ?_); at_builtin; refine Kd.R_append_rows (Kd.int .i64) (w0 := w) w.heap.size rfl (.tmp 31) (.tmp 32) 31 3 (.int .i64 0) 8 rfl Try.underlying31 info3 rfl (by decide) (by omega) v218 y217 l1 _ _ _ (fun _ => True) (fun _ => False) rfl rfl ?aO ?aR (fun _ _ h => h) (fun _ h => h.elim) ?aF ?aB ?aS ?aL ?_; (case aR => repeat (first | exact (Kd.C_below HR1.out HB.out) | (with_reducible refine Kd.C_alloc ?_ _) | (with_reducible refine Kd.C_drewN ?_ _) | (with_reducible refine Kd.C_drew ?_))); (case aB => exact (gB_ HB.out)); (case aF => exact (fun _ _ => trivial)); (case aO => exact (by (with_reducible repeat (first | apply rA_ | apply rN_ | apply rD_)); exact HO219.out)); (case aS => exact (below_size (gB_ HB.out))); (case aL => have := LMc11.out; omega); intro v221 w32 ho hb hg hat; rw [← Ny220.out] at ho; have n0 := aM_ (blk_grown (g := gb212) (o := .cells #[.slice (some ad213) l0_0.length c0_0] 24 (0, 0)) (by (with_reducible repeat (first | refine bN_ ?_ _ | refine bD_ ?_ | refine bA_ ?_ _)); exact BK212.out) hg (Kd.R_ne HO219.out BK212.out (by decide))); have n1 := aM_ (hb); have n2 := aM_ (ho); clear BK212; clear HB; clear HO219; have BK212 := n0; have HB := n1; have HO222 := n2; clear n0 n1 n2; clear ho hb hg hat; have p13 : 0 ≤ (a2 : Int) := of_decide_eq_true (by first | (with_reducible assumption) | assumption); have q13 : (a2 : Int) < ((y220.length : Int) : Int) := of_decide_eq_true (by first | (with_reducible assumption) | assumption); obtain ⟨go13, co13, eo13, gb13, gl13, cl13, HG13⟩ := Kd.R_form HO222.out (by omega); (first | cases eo13 | (injection eo13 with ea_ en_ ec_; (first | subst ea_ | (injection ea_ with ea_; subst ea_)); subst ec_; clear en_)); have GB13 := aM_ gb13; have GG13 := aM_ HG13; clear gb13 gl13 HG13; obtain ⟨hx13_0, hf13_0⟩ := Kd.R_celln 0 HO222.out (a2 : Int) p13 q13; replace p13 := eq_true p13; replace q13 := eq_true q13; obtain ⟨hy33_, hz33_⟩ := Kd.R_celln 0 HO222.out (a2 : Int) (of_decide_eq_true (by first | (with_reducible assumption) | assumption)) (of_decide_eq_true (by first | (with_reducible assumption) | assumption)); have HP33 := Kd.R_putg HO222.out (a2 : Int) t216) | ((with_reducible refine gate_store (t := 3) (p := 37) rfl ?_); (try (rw [drewN_self w32]; generalize hq_ : World.drewN w32 _ = w32; have n0 := aM_ (Kd.R_at hq_ HO222.out); have n1 := aM_ (blk_at hq_ BK212.out); have n2 := aM_ (below_at hq_ HB.out); clear hq_ HO222 BK212 HB; have HO222 := n0; have BK212 := n1; have HB := n2; clear n0 n1 n2; (try (obtain ⟨hy33_, hz33_⟩ := Kd.R_celln 0 HO222.out (a2 : Int) (of_decide_eq_true (by first | (with_reducible assumption) | assumption)) (of_decide_eq_true (by first | (with_reducible assumption) | assumption)))); (try (have HP33 := Kd.R_putg HO222.out (a2 : Int) t216)))); refine store_event (t := 3) (p := 37) (v := ?vo_w34) (w1 := (w32.setCell ⟨go13, (a2 : Int).toNat, none⟩ (.int .i64 t216))) ?hg ?ho ?hn ?hr ?_; (case ho => rfl); (case hg => rfl); (case hn => rfl); (case hr => first | (go_simp; done) | (go_simp; rfl)); intro w34 hw; have hg : w32.grownBy w34 (some go13) := (by rw [hw]; exact HP33.2); have hp_ : Kd.R (Kd.int .i64) 3 w34 w.heap.size (fun _ => True) (.slice (some ⟨go13, 0, none⟩) y220.length co13) y223 := (by rw [hw, Ny223.out]; exact HP33.1); clear HP33; have n0 := aM_ (blk_grown (g := gb212) (o := .cells #[.slice (some ad213) l0_0.length c0_0] 24 (0, 0)) (by (with_reducible repeat (first | refine bN_ ?_ _ | refine bD_ ?_ | refine bA_ ?_ _)); exact BK212.out) hg (Kd.R_ne HO222.out BK212.out (by decide))); have n1 := aM_ (hp_); have n2 := aM_ ((by rw [hw]; exact below_set (HB.out) GB13.out : Below w.heap.size w w34)); clear BK212; clear HO222; clear HB; have BK212 := n0; have HO222 := n1; have HB := n2; clear n0 n1 n2; clear hg hw hp_; have p229 : 0 ≤ (t216 : Int) := of_decide_eq_true (by first | (with_reducible assumption) | assumption); have q229 : t216 < ((rd_L4 l0_0 a2).length : Int) := of_decide_eq_true (by first | (with_reducible assumption) | assumption); obtain ⟨ad229, A229_1, c229_1, e229, hx229_0, hx229_1, hl229_1, hi229_1⟩ := at_T43 HR213_0.out t216 p229 q229; cases e229; replace hx229_0 := cB_ HB.out hx229_0; replace hx229_1 := cB_ HB.out hx229_1; have HR229_1 := aM_ hi229_1; have HC229_1 := aM_ hl229_1; clear hi229_1 hl229_1; replace p229 := eq_true p229; replace q229 := eq_true q229)); try go_wp2_with (first | ((with_reducible refine gate_dst (N := 5) rfl ?_); refine bX_ 5 (cs := #[.slice A0_0 l0_0.length c0_0]) (t := 24) ?_; intro gb212 hg w28 hbox hb; have n0 := aM_ (sT_ HB.out hb); have n1 := aM_ (hbox); have n2 := aM_ (sZ_ hg HB.out); have n3 := aM_ (sZ_ hg HB.out); clear HB; have HB := n0; have BK212 := n1; have GW212 := n2; have GE212 := n3; clear n0 n1 n2 n3; clear hb hbox hg; have hcz29_0 : w28.cell? ⟨gb212, 0, none⟩ = some (.slice A0_0 l0_0.length c0_0) := (blk_cell BK212.out 0).trans rfl; have hfz29_0 := blk_frozen BK212.out 0; have p213 : 0 ≤ (a2 : Int) := of_decide_eq_true (by first | (with_reducible assumption) | assumption); have q213 : a2 < (l0_0.length : Int) := of_decide_eq_true (by first | (with_reducible assumption) | assumption); obtain ⟨ad213, A213_0, c213_0, e213, hx213_0, hl213_0, hi213_0⟩ := at_L4 HR0_0.out a2 p213 q213; cases e213; replace hx213_0 := cB_ HB.out hx213_0; have HR213_0 := aM_ hi213_0; have HC213_0 := aM_ hl213_0; clear hi213_0 hl213_0; replace p213 := eq_true p213; replace q213 := eq_true q213) | (go_at_call 95; (with_reducible refine (spec_l1Max.calls a3 0 t214 _ A8.out).mono ?_); rintro e w' ⟨rfl, ⟨nd, rfl⟩⟩; (try first | exact ⟨rfl, _, World.drewN_drewN _ _ _⟩ | exact ⟨rfl, _, Eq.trans (World.drewN_drewN _ _ _) (congrArg (World.drewN _) (Nat.add_assoc _ _ _))⟩); have p215 : 0 ≤ (a2 : Int) := of_decide_eq_true (by first | (with_reducible assumption) | assumption); have q215 : a2 < (l1.length : Int) := of_decide_eq_true (by first | (with_reducible assumption) | assumption); obtain ⟨ad215, e215, hx215_0⟩ := Kd.at_int HR1.out a2 p215 q215; cases e215; replace hx215_0 := cB_ HB.out hx215_0; replace p215 := eq_true p215; replace q215 := eq_true q215) | (go_at_call 95; (with_reducible refine (spec_l1Max.calls (wrap64 ((wrap64 (((rd_L4 l0_0 a2).length : Int) - 1)) - t214)) (rd l1 a2) t216 _ A10.out).mono ?_); rintro e w' ⟨rfl, ⟨nd, rfl⟩⟩; (try first | exact ⟨rfl, _, World.drewN_drewN _ _ _⟩ | exact ⟨rfl, _, Eq.trans (World.drewN_drewN _ _ _) (congrArg (World.drewN _) (Nat.add_assoc _ _ _))⟩)) | ((with_reducible refine gate_dst (N := 31) rfl ?_); refine Kd.R_lit (Kd.int .i64) _ 3 ?hg (N := 31) ?hd (xs := ([] : List Int)) (inner := []) (ok := fun _ => True) (okp := fun _ => True) ?hr ?hp (fun _ hk => hk) trivial (Below.refl _ _) (Nat.le_refl _) (by simp) ?_; (case hd => rfl); (case hg => rfl); (case hr => first | (go_simp; done) | (go_simp; rfl)); (case hp => exact (Reps.none _ _)); intro v218 w30 ho31 hb hg_ hnew_; clear hg_ hnew_; (first | rw [← Ny217.out] at ho31 | (simp only [Int.reduceToNat] at ho31; rw [← Ny217.out] at ho31)); have n0 := aM_ (Kd.R_lower ho31 (below_size (gB_ HB.out))); have n1 := aM_ (nB_ BK212.out hb); have n2 := aM_ (sT_ HB.out hb); clear BK212; clear HB; have HO219 := n0; have BK212 := n1; have HB := n2; clear n0 n1 n2; clear hb ho31) | ((with_reducible refine gate_builtin (b := .append) (xs := #[.tmp 31, .tmp 32]) rfl ?_); at_builtin; refine Kd.R_append_rows (Kd.int .i64) (w0 := w) w.heap.size rfl (.tmp 31) (.tmp 32) 31 3 (.int .i64 0) 8 rfl Try.underlying31 info3 rfl (by decide) (by omega) v218 y217 l1 _ _ _ (fun _ => True) (fun _ => False) rfl rfl ?aO ?aR (fun _ _ h => h) (fun _ h => h.elim) ?aF ?aB ?aS ?aL ?_; (case aR => repeat (first | exact (Kd.C_below HR1.out HB.out) | (with_reducible refine Kd.C_alloc ?_ _) | (with_reducible refine Kd.C_drewN ?_ _) | (with_reducible refine Kd.C_drew ?_))); (case aB => exact (gB_ HB.out)); (case aF => exact (fun _ _ => trivial)); (case aO => exact (by (with_reducible repeat (first | apply rA_ | apply rN_ | apply rD_)); exact HO219.out)); (case aS => exact (below_size (gB_ HB.out))); (case aL => have := LMc11.out; omega); intro v221 w32 ho hb hg hat; rw [← Ny220.out] at ho; have n0 := aM_ (blk_grown (g := gb212) (o := .cells #[.slice (some ad213) l0_0.length c0_0] 24 (0, 0)) (by (with_reducible repeat (first | refine bN_ ?_ _ | refine bD_ ?_ | refine bA_ ?_ _)); exact BK212.out) hg (Kd.R_ne HO219.out BK212.out (by decide))); have n1 := aM_ (hb); have n2 := aM_ (ho); clear BK212; clear HB; clear HO219; have BK212 := n0; have HB := n1; have HO222 := n2; clear n0 n1 n2; clear ho hb hg hat; have p13 : 0 ≤ (a2 : Int) := of_decide_eq_true (by first | (with_reducible assumption) | assumption); have q13 : (a2 : Int) < ((y220.length : Int) : Int) := of_decide_eq_true (by first | (with_reducible assumption) | assumption); obtain ⟨go13, co13, eo13, gb13, gl13, cl13, HG13⟩ := Kd.R_form HO222.out (by omega); (first | cases eo13 | (injection eo13 with ea_ en_ ec_; (first | subst ea_ | (injection ea_ with ea_; subst ea_)); subst ec_; clear en_)); have GB13 := aM_ gb13; have GG13 := aM_ HG13; clear gb13 gl13 HG13; obtain ⟨hx13_0, hf13_0⟩ := Kd.R_celln 0 HO222.out (a2 : Int) p13 q13; replace p13 := eq_true p13; replace q13 := eq_true q13; obtain ⟨hy33_, hz33_⟩ := Kd.R_celln 0 HO222.out (a2 : Int) (of_decide_eq_true (by first | (with_reducible assumption) | assumption)) (of_decide_eq_true (by first | (with_reducible assumption) | assumption)); have HP33 := Kd.R_putg HO222.out (a2 : Int) t216) | ((with_reducible refine gate_store (t := 3) (p := 37) rfl ?_); (try (rw [drewN_self w32]; generalize hq_ : World.drewN w32 _ = w32; have n0 := aM_ (Kd.R_at hq_ HO222.out); have n1 := aM_ (blk_at hq_ BK212.out); have n2 := aM_ (below_at hq_ HB.out); clear hq_ HO222 BK212 HB; have HO222 := n0; have BK212 := n1; have HB := n2; clear n0 n1 n2; (try (obtain ⟨hy33_, hz33_⟩ := Kd.R_celln 0 HO222.out (a2 : Int) (of_decide_eq_true (by first | (with_reducible assumption) | assumption)) (of_decide_eq_true (by first | (with_reducible assumption) | assumption)))); (try (have HP33 := Kd.R_putg HO222.out (a2 : Int) t216)))); refine store_event (t := 3) (p := 37) (v := ?vo_w34) (w1 := (w32.setCell ⟨go13, (a2 : Int).toNat, none⟩ (.int .i64 t216))) ?hg ?ho ?hn ?hr ?_; (case ho => rfl); (case hg => rfl); (case hn => rfl); (case hr => first | (go_simp; done) | (go_simp; rfl)); intro w34 hw; have hg : w32.grownBy w34 (some go13) := (by rw [hw]; exact HP33.2); have hp_ : Kd.R (Kd.int .i64) 3 w34 w.heap.size (fun _ => True) (.slice (some ⟨go13, 0, none⟩) y220.length co13) y223 := (by rw [hw, Ny223.out]; exact HP33.1); clear HP33; have n0 := aM_ (blk_grown (g := gb212) (o := .cells #[.slice (some ad213) l0_0.length c0_0] 24 (0, 0)) (by (with_reducible repeat (first | refine bN_ ?_ _ | refine bD_ ?_ | refine bA_ ?_ _)); exact BK212.out) hg (Kd.R_ne HO222.out BK212.out (by decide))); have n1 := aM_ (hp_); have n2 := aM_ ((by rw [hw]; exact below_set (HB.out) GB13.out : Below w.heap.size w w34)); clear BK212; clear HO222; clear HB; have BK212 := n0; have HO222 := n1; have HB := n2; clear n0 n1 n2; clear hg hw hp_; have p229 : 0 ≤ (t216 : Int) := of_decide_eq_true (by first | (with_reducible assumption) | assumption); have q229 : t216 < ((rd_L4 l0_0 a2).length : Int) := of_decide_eq_true (by first | (with_reducible assumption) | assumption); obtain ⟨ad229, A229_1, c229_1, e229, hx229_0, hx229_1, hl229_1, hi229_1⟩ := at_T43 HR213_0.out t216 p229 q229; cases e229; replace hx229_0 := cB_ HB.out hx229_0; replace hx229_1 := cB_ HB.out hx229_1; have HR229_1 := aM_ hi229_1; have HC229_1 := aM_ hl229_1; clear hi229_1 hl229_1; replace p229 := eq_true p229; replace q229 := eq_true q229)))
         go_ret2
         exact ⟨_, fR_, by (with_reducible repeat (first | apply rA_ | apply rN_ | apply rD_)); exact HO222.out, gB_ HB.out⟩
        ·rw [if_neg c27] at H
         exact absurd H (by simp)
       ·rw [if_neg c26] at H
        exact absurd H (by simp)
     ·rw [if_neg c12] at H
      exact absurd H (by simp)
    ·rw [if_neg c11] at H
     exact absurd H (by simp)
   ·rw [if_neg c9] at H
    exact absurd H (by simp)
  ·rw [if_neg c7] at H
   exact absurd H (by simp)
 ·rw [if_neg c6] at H
  exact absurd H (by simp)
def spec_Load.f (k : Nat) (l0_0 : List (List (S43))) (l1 : List Int) (a2 : Int) (a3 : Int) (a4 : Bool) : Option (Int × List Int) := (spec_l6Right.f k l0_0 l1 a2).bind fun t231 => (if t231 = true then ((spec_l6Load.f k l0_0 l1 a2 a3 a4).bind fun bt232 => (some (bt232.1, bt232.2))) else ((some (([] : List Int) : List Int)).bind fun y236 => (if y236.length + l1.length < 17592186044416 then (some (0, (y236 ++ l1))) else (none))))
set_option maxHeartbeats 8000000 in
set_option maxRecDepth 100000 in
theorem spec_Load.calls (k : Nat) (A0_0 : Option Addr) (c0_0 : Nat) (l0_0 : List (List (S43))) (A1 : Option Addr) (c1 : Nat) (l1 : List Int) (a2 : Int) (a3 : Int) (a4 : Bool) (r1 : Int) (r2 : List Int) (w : World) (hr0_0 : Kd.C (Kd.slice 43 k43) w A0_0 l0_0.length l0_0) (hc0_0 : l0_0.length ≤ c0_0) (hr1 : Kd.C (Kd.int .i64) w A1 l1.length l1) (hc1 : l1.length ≤ c1) (h : spec_Load.f k l0_0 l1 a2 a3 a4 = some (r1, r2)) :
  Calls Try.prog 22 #[.agg #[.slice A0_0 l0_0.length c0_0], .slice A1 l1.length c1, .int .i64 a2, .int .i64 a3, .bool a4] w fun e w' => ∃ v1_ : Value, e = .returned (.tuple #[.int .i64 r1, v1_]) ∧ Kd.R (Kd.int .i64) 3 w' w.heap.size (fun _ => True) v1_ r2 ∧ Below w.heap.size w w' := by
 have hu24 := Try.underlying24
 have HR0_0 := aM_ hr0_0
 have HC0_0 := aM_ hc0_0
 clear hr0_0 hc0_0
 have HR1 := aM_ hr1
 have HC1 := aM_ hc1
 clear hr1 hc1
 have HB := aM_ (Below.refl w.heap.size w)
 have H : ((spec_l6Right.f k l0_0 l1 a2).bind fun t231 => (if t231 = true then ((spec_l6Load.f k l0_0 l1 a2 a3 a4).bind fun bt232 => (some (bt232.1, bt232.2))) else ((some (([] : List Int) : List Int)).bind fun y236 => (if y236.length + l1.length < 17592186044416 then (some (0, (y236 ++ l1))) else (none))))) = some (r1, r2) := h
 clear h
 replace H := Option.bind_eq_some_iff.mp H
 obtain ⟨t231, A60, H⟩ := H
 replace H : (if t231 = true then ((spec_l6Load.f k l0_0 l1 a2 a3 a4).bind fun bt232 => (some (bt232.1, bt232.2))) else ((some (([] : List Int) : List Int)).bind fun y236 => (if y236.length + l1.length < 17592186044416 then (some (0, (y236 ++ l1))) else (none)))) = some (r1, r2) := H
 have A6 := aM_ A60
 clear A60
 by_cases c7 : t231 = true
 ·subst c7
  have H1 : ((spec_l6Load.f k l0_0 l1 a2 a3 a4).bind fun bt232 => (some (bt232.1, bt232.2))) = some (r1, r2) := by rw [if_pos rfl] at H; exact H
  clear H
  have H := H1
  clear H1
  replace H := Option.bind_eq_some_iff.mp H
  obtain ⟨⟨t232, t233⟩, A80, H⟩ := H
  replace H : (some (t232, t233)) = some (r1, r2) := H
  have A8 := aM_ A80
  clear A80
  simp only [Option.some.injEq, Prod.mk.injEq] at H
  obtain ⟨rfl, rfl⟩ := H
  go_enter Try.func22, Try.ntmps22
  go_wp2_with (first | ((with_reducible refine gate_dst (N := 5) rfl ?_); refine bX_ 5 (cs := #[.slice A0_0 l0_0.length c0_0]) (t := 24) ?_; intro gb230 hg w9 hbox hb; have n0 := aM_ (sT_ HB.out hb); have n1 := aM_ (hbox); have n2 := aM_ (sZ_ hg HB.out); have n3 := aM_ (sZ_ hg HB.out); clear HB; have HB := n0; have BK230 := n1; have GW230 := n2; have GE230 := n3; clear n0 n1 n2 n3; clear hb hbox hg; have hcz10_0 : w9.cell? ⟨gb230, 0, none⟩ = some (.slice A0_0 l0_0.length c0_0) := (blk_cell BK230.out 0).trans rfl; have hfz10_0 := blk_frozen BK230.out 0) | ((with_reducible refine gate_callee (f := 61) rfl ?_); refine gL_ (some 17) Try.func61 #[.agg #[.slice A0_0 l0_0.length c0_0], .slice A1 l1.length c1, .int .i64 a2] ?_; (with_reducible refine (spec_l6Right.calls k _ _ l0_0 _ _ l1 a2 true _ ?side1 ?side2 ?side3 ?side4 A6.out).mono ?_); (case side1 => exact cS_ (Kd.C_below HR0_0.out HB.out)); (case side2 => exact HC0_0.out); (case side3 => exact cS_ (Kd.C_below HR1.out HB.out)); (case side4 => exact HC1.out); rintro e w11 ⟨rfl, hb⟩; refine ⟨_, rfl, ?_⟩; have n0 := aM_ (nB_ BK230.out hb); have n1 := aM_ (sT_ HB.out hb); clear BK230; clear HB; have BK230 := n0; have HB := n1; clear n0 n1; have hcz12_0 : w11.cell? ⟨gb230, 0, none⟩ = some (.slice A0_0 l0_0.length c0_0) := (blk_cell BK230.out 0).trans rfl; have hfz12_0 := blk_frozen BK230.out 0) | ((with_reducible refine gate_callee (f := 62) rfl ?_); refine gL_ (some 28) Try.func62 #[.agg #[.slice A0_0 l0_0.length c0_0], .slice A1 l1.length c1, .int .i64 a2, .int .i64 a3, .bool a4] ?_; (with_reducible refine (spec_l6Load.calls k _ _ l0_0 _ _ l1 a2 a3 a4 t232 t233 _ ?side1 ?side2 ?side3 ?side4 A8.out).mono ?_); (case side1 => exact cS_ (Kd.C_below HR0_0.out HB.out)); (case side2 => exact HC0_0.out); (case side3 => exact cS_ (Kd.C_below HR1.out HB.out)); (case side4 => exact HC1.out); rintro e w13 ⟨v234, rfl, ho0, hb⟩; refine ⟨_, rfl, ?_⟩; have n0 := aM_ (Kd.R_lower ho0 (below_size (gB_ HB.out))); have n1 := aM_ (nB_ BK230.out hb); have n2 := aM_ (sT_ HB.out hb); clear BK230; clear HB; have HO235 := n0; have BK230 := n1; have HB := n2; clear n0 n1 n2; (try clear ho0)))
  go_ret2
  exact ⟨_, fR_, by (with_reducible repeat (first | apply rA_ | apply rN_ | apply rD_)); exact HO235.out, gB_ HB.out⟩
 ·replace c7 := Bool.eq_false_iff.mpr c7
  subst c7
  have H1 : ((some (([] : List Int) : List Int)).bind fun y236 => (if y236.length + l1.length < 17592186044416 then (some (0, (y236 ++ l1))) else (none))) = some (r1, r2) := by rw [if_neg (show ¬ (false = true) by decide)] at H; exact H
  clear H
  have H := H1
  clear H1
  obtain ⟨y236, hy236⟩ : ∃ y_ : List Int, y_ = (([] : List Int)) := ⟨_, rfl⟩
  replace H : (if y236.length + l1.length < 17592186044416 then (some (0, (y236 ++ l1))) else (none)) = some (r1, r2) := by first | (rw [hy236]; with_reducible exact H) | (have H2_ := (Option.bind_some _ _).symm.trans H; rw [hy236]; with_reducible exact H2_) | (have H2_ := (Option.bind_some _ _).symm.trans H; with_reducible exact H2_) | with_reducible exact H | (rw [hy236]; exact H) | exact H
  have Ny236 := aM_ hy236
  clear hy236
  by_cases c14 : y236.length + l1.length < 17592186044416
  ·rw [if_pos c14] at H
   have LMc14 := aM_ c14
   clear c14
   obtain ⟨y239, hy239⟩ : ∃ y_ : List Int, y_ = (y236 ++ l1) := ⟨_, rfl⟩
   replace H : (some (0, y239)) = some (r1, r2) := by first | (rw [hy239]; with_reducible exact H) | (have H2_ := (Option.bind_some _ _).symm.trans H; rw [hy239]; with_reducible exact H2_) | (have H2_ := (Option.bind_some _ _).symm.trans H; with_reducible exact H2_) | with_reducible exact H | (rw [hy239]; exact H) | exact H
   have Ny239 := aM_ hy239
   clear hy239
   simp only [Option.some.injEq, Prod.mk.injEq] at H
   obtain ⟨rfl, rfl⟩ := H
   go_enter Try.func22, Try.ntmps22
   go_wp2_with (first | ((with_reducible refine gate_dst (N := 5) rfl ?_); refine bX_ 5 (cs := #[.slice A0_0 l0_0.length c0_0]) (t := 24) ?_; intro gb230 hg w15 hbox hb; have n0 := aM_ (sT_ HB.out hb); have n1 := aM_ (hbox); have n2 := aM_ (sZ_ hg HB.out); have n3 := aM_ (sZ_ hg HB.out); clear HB; have HB := n0; have BK230 := n1; have GW230 := n2; have GE230 := n3; clear n0 n1 n2 n3; clear hb hbox hg; have hcz16_0 : w15.cell? ⟨gb230, 0, none⟩ = some (.slice A0_0 l0_0.length c0_0) := (blk_cell BK230.out 0).trans rfl; have hfz16_0 := blk_frozen BK230.out 0) | ((with_reducible refine gate_callee (f := 61) rfl ?_); refine gL_ (some 17) Try.func61 #[.agg #[.slice A0_0 l0_0.length c0_0], .slice A1 l1.length c1, .int .i64 a2] ?_; (with_reducible refine (spec_l6Right.calls k _ _ l0_0 _ _ l1 a2 false _ ?side1 ?side2 ?side3 ?side4 A6.out).mono ?_); (case side1 => exact cS_ (Kd.C_below HR0_0.out HB.out)); (case side2 => exact HC0_0.out); (case side3 => exact cS_ (Kd.C_below HR1.out HB.out)); (case side4 => exact HC1.out); rintro e w17 ⟨rfl, hb⟩; refine ⟨_, rfl, ?_⟩; have n0 := aM_ (nB_ BK230.out hb); have n1 := aM_ (sT_ HB.out hb); clear BK230; clear HB; have BK230 := n0; have HB := n1; clear n0 n1) | ((with_reducible refine gate_dst (N := 19) rfl ?_); refine Kd.R_lit (Kd.int .i64) _ 3 ?hg (N := 19) ?hd (xs := ([] : List Int)) (inner := []) (ok := fun _ => True) (okp := fun _ => True) ?hr ?hp (fun _ hk => hk) trivial (Below.refl _ _) (Nat.le_refl _) (by simp) ?_; (case hd => rfl); (case hg => rfl); (case hr => first | (go_simp; done) | (go_simp; rfl)); (case hp => exact (Reps.none _ _)); intro v237 w18 ho19 hb hg_ hnew_; clear hg_ hnew_; (first | rw [← Ny236.out] at ho19 | (simp only [Int.reduceToNat] at ho19; rw [← Ny236.out] at ho19)); have n0 := aM_ (Kd.R_lower ho19 (below_size (gB_ HB.out))); have n1 := aM_ (nB_ BK230.out hb); have n2 := aM_ (sT_ HB.out hb); clear BK230; clear HB; have HO238 := n0; have BK230 := n1; have HB := n2; clear n0 n1 n2; clear hb ho19) | ((with_reducible refine gate_builtin (b := .append) (xs := #[.tmp 19, .tmp 20]) rfl ?_); at_builtin; refine Kd.R_append_rows (Kd.int .i64) (w0 := w) w.heap.size rfl (.tmp 19) (.tmp 20) 31 3 (.int .i64 0) 8 rfl Try.underlying31 info3 rfl (by decide) (by omega) v237 y236 l1 _ _ _ (fun _ => True) (fun _ => False) rfl rfl ?aO ?aR (fun _ _ h => h) (fun _ h => h.elim) ?aF ?aB ?aS ?aL ?_; (case aR => repeat (first | exact (Kd.C_below HR1.out HB.out) | (with_reducible refine Kd.C_alloc ?_ _) | (with_reducible refine Kd.C_drewN ?_ _) | (with_reducible refine Kd.C_drew ?_))); (case aB => exact (gB_ HB.out)); (case aF => exact (fun _ _ => trivial)); (case aO => exact (by (with_reducible repeat (first | apply rA_ | apply rN_ | apply rD_)); exact HO238.out)); (case aS => exact (below_size (gB_ HB.out))); (case aL => have := LMc14.out; omega); intro v240 w20 ho hb hg hat; rw [← Ny239.out] at ho; have n0 := aM_ (blk_grown (g := gb230) (o := .cells #[.slice A0_0 l0_0.length c0_0] 24 (0, 0)) (by (with_reducible repeat (first | refine bN_ ?_ _ | refine bD_ ?_ | refine bA_ ?_ _)); exact BK230.out) hg (Kd.R_ne HO238.out BK230.out (by decide))); have n1 := aM_ (hb); have n2 := aM_ (ho); clear BK230; clear HB; clear HO238; have BK230 := n0; have HB := n1; have HO241 := n2; clear n0 n1 n2; clear ho hb hg hat))
   go_ret2
   exact ⟨_, fR_, by (with_reducible repeat (first | apply rA_ | apply rN_ | apply rD_)); exact HO241.out, gB_ HB.out⟩
  ·rw [if_neg c14] at H
   exact absurd H (by simp)
mutual
def spec_l6Copy.l0 : Nat → Int → List (List (S43)) → List (List (S43)) → Option ((List (List (S43))))
  | 0, _, _, _ => none
  | k + 1, x4, x243000, x245000 => if x4 < (x243000.length : Int) then (spec_l6Copy.l1 k x4 (([] : List (S43))) 0 x243000 x245000) else (some x245000)
def spec_l6Copy.l1 : Nat → Int → List (S43) → Int → List (List (S43)) → List (List (S43)) → Option ((List (List (S43))))
  | 0, _, _, _, _, _ => none
  | k + 1, x4, x5, x6, x243000, x245000 => if 0 ≤ x4 then (if x4 < (x243000.length : Int) then (if x6 < ((rd_L4 x243000 x4).length : Int) then (if 0 ≤ x6 then ((some (([] : List Int) : List Int)).bind fun y251 => (if y251.length + ((rd_T43 (rd_L4 x243000 x4) x6).f1).length < 17592186044416 then (if x5.length < 4398046511104 then (spec_l6Copy.l1 k x4 (x5 ++ [(⟨(rd_T43 (rd_L4 x243000 x4) x6).f0, (y251 ++ ((rd_T43 (rd_L4 x243000 x4) x6).f1))⟩ : S43)]) (wrap64 (x6 + 1)) x243000 x245000) else (none)) else (none))) else (none)) else (if x245000.length < 5864062014805 then (spec_l6Copy.l0 k (wrap64 (x4 + 1)) x243000 (x245000 ++ [x5])) else (none))) else (none)) else (none)
end
def spec_l6Copy.f (k : Nat) (l0_0 : List (List (S43))) : Option ((List (List (S43)))) := spec_l6Copy.l0 k 0 l0_0 ([] : List (List (S43)))
def spec_l6Copy.T9 : Bool × List (List Nat × List Nat) := (true, [([], []), ([], []), ([1], [1]), ([], []), ([2, 3], [2, 3]), ([4], [4]), ([], []), ([5, 6], [5, 6]), ([7], [7]), ([8], [8]), ([], []), ([], []), ([11], [11]), ([], []), ([12, 13], [12, 13]), ([14], [14]), ([], []), ([15, 16], [15, 16]), ([17], [17]), ([18], [18]), ([10, 19], [10, 19]), ([9, 20], [9, 20]), ([21], [21]), ([0, 22, 20], [0, 22]), ([23, 23, 0, 1, 2, 3, 4, 5, 6, 7, 8, 9, 10, 11, 12, 13, 14, 15, 16, 17, 18, 19, 20, 21, 22, 23], [0, 23])])
def spec_l6Copy.B9 : List Nat := [0, 0, 2, 0, 14, 30, 0, 126, 254, 510, 0, 0, 2048, 0, 14336, 30720, 0, 129024, 260096, 522240, 1047552, 2097150, 4194302, 8388607, 16777215]
theorem spec_l6Copy.tab9 : rtab .any (opsOf Try.f85 9) = spec_l6Copy.T9 := by kernel_rfl
theorem spec_l6Copy.bits9 : waitsOk spec_l6Copy.T9.2 spec_l6Copy.B9 = true := by kernel_rfl
set_option maxHeartbeats 8000000 in
set_option maxRecDepth 100000 in
theorem spec_l6Copy.calls (k : Nat) (A0_0 : Option Addr) (c0_0 : Nat) (l0_0 : List (List (S43))) (r : List (List (S43))) (w00 : World) (hr0_0 : Kd.C (Kd.slice 43 k43) w00 A0_0 l0_0.length l0_0) (hc0_0 : l0_0.length ≤ c0_0) (h : spec_l6Copy.f k l0_0 = some r) :
  Calls Try.prog 85 #[.agg #[.slice A0_0 l0_0.length c0_0]] w00 fun e w' => ∃ v0_ : Value, e = .returned (.agg #[v0_]) ∧ Kd.S (sslice 43 k43) 44 w' w00.heap.size (fun _ => True) v0_ r ∧ Below w00.heap.size w00 w' := by
 have hu24 := Try.underlying24
 have hu43 := Try.underlying43
 have HR0_0 := aM_ hr0_0
 have HC0_0 := aM_ hc0_0
 clear hr0_0 hc0_0
 have HB := aM_ (Below.refl w00.heap.size w00)
 have H : (spec_l6Copy.l0 k 0 l0_0 ([] : List (List (S43)))) = some r := h
 clear h
 have H' := aM_ H
 clear H
 go_enter Try.func85, Try.ntmps85
 go_wp2_with (first | ((with_reducible refine gate_dst (N := 1) rfl ?_); refine bX_ 1 (cs := #[.slice A0_0 l0_0.length c0_0]) (t := 24) ?_; intro gb242 hg w2 hbox hb; have n0 := aM_ (sT_ HB.out hb); have n1 := aM_ (hbox); have n2 := aM_ ((by rw [hg]; exact (below_size (gB_ HB.out)) : w00.heap.size ≤ gb242)); have n3 := aM_ ((by rw [hg]; exact (below_size (gB_ HB.out)) : w00.heap.size ≤ gb242)); clear HB; have HB := n0; have BK242 := n1; have GW242 := n2; have GE242 := n3; clear n0 n1 n2 n3; clear hb hbox hg) | ((with_reducible refine gate_dst (N := 2) rfl ?_); refine bX_ 2 (cs := #[.slice none 0 0]) (t := 24) ?_; intro gb243 hg w3 hbox hb; have n0 := aM_ (nB_ BK242.out hb); have n1 := aM_ (sT_ HB.out hb); have n2 := aM_ (hbox); have n3 := aM_ ((by rw [hg]; exact (below_size (gB_ HB.out)) : w00.heap.size ≤ gb243)); have n4 := aM_ ((by rw [hg]; exact (below_size (gB_ HB.out)) : w00.heap.size ≤ gb243)); have n5 := aM_ (nL_ hg BK242.out); have n6 := aM_ (nG_ hg BK242.out); clear BK242; clear HB; have BK242 := n0; have HB := n1; have BK243 := n2; have GW243 := n3; have GE243 := n4; have NB242_243 := n5; have NB243_242 := n6; clear n0 n1 n2 n3 n4 n5 n6; clear hb hbox hg) | ((with_reducible refine gate_dst (N := 3) rfl ?_); refine bX_ 3 (cs := #[.slice none 0 0]) (t := 24) ?_; intro gb244 hg w4 hbox hb; have n0 := aM_ (nB_ BK242.out hb); have n1 := aM_ (nB_ BK243.out hb); have n2 := aM_ (sT_ HB.out hb); have n3 := aM_ (hbox); have n4 := aM_ ((by rw [hg]; exact (below_size (gB_ HB.out)) : w00.heap.size ≤ gb244)); have n5 := aM_ ((by rw [hg]; exact (below_size (gB_ HB.out)) : w00.heap.size ≤ gb244)); have n6 := aM_ (nL_ hg BK242.out); have n7 := aM_ (nG_ hg BK242.out); have n8 := aM_ (nL_ hg BK243.out); have n9 := aM_ (nG_ hg BK243.out); clear BK242; clear BK243; clear HB; have BK242 := n0; have BK243 := n1; have HB := n2; have BK244 := n3; have GW244 := n4; have GE244 := n5; have NB242_244 := n6; have NB244_242 := n7; have NB243_244 := n8; have NB244_243 := n9; clear n0 n1 n2 n3 n4 n5 n6 n7 n8 n9; clear hb hbox hg; have hnb5 := NB244_242.out; have hnc5 := NB242_244.out; have hnb6 := NB244_243.out; have hnc6 := NB243_244.out; have hcz7_0 : w4.cell? ⟨gb244, 0, none⟩ = some (.slice none 0 0) := (blk_cell BK244.out 0).trans rfl; have hfz7_0 := blk_frozen BK244.out 0))
 go_loopg [4] k (fun kq v4 w' => ∃ (x4_1 : Int) (x2450_1 : List (List (S43))) (u2450 : Value), v4 = .int .i64 x4_1 ∧ Aside0 (spec_l6Copy.l0 kq x4_1 l0_0 x2450_1 = some r) ∧ Aside0 (kq ≤ k) ∧ Aside0 (Kd.S (sslice 43 k43) 44 w' w00.heap.size (fun _ => True) u2450 x2450_1) ∧ Aside0 (w'.heap[gb242]? = some (.cells #[(.slice A0_0 l0_0.length c0_0)] 24 (0, 0))) ∧ Aside0 (w'.heap[gb243]? = some (.cells #[(.slice none 0 0)] 24 (0, 0))) ∧ Aside0 (w'.heap[gb244]? = some (.cells #[u2450] 24 (0, 0))) ∧ Aside0 (Below w00.heap.size w00 w'))
 case atStart => exact ⟨(0), (([] : List (List (S43)))), (.slice none 0 0), (by first | rfl | (simp; done) | (simp [*]; done)), H', ⟨Nat.le_refl _⟩, ⟨by first | exact Kd.R_nil _ _ _ _ _ | exact Kd.N_nil _ _ _ _ _ | exact Kd.V_nil _ _ _ _ _ | exact Kd.Q_nil _ _ _ _ _ | exact Kd.S_nil _ _ _ _ _⟩, ⟨by (with_reducible repeat (first | refine bN_ ?_ _ | refine bD_ ?_ | refine bA_ ?_ _)); refine blk_far ?_ NB242_244.out _; (with_reducible repeat (first | refine bN_ ?_ _ | refine bD_ ?_ | refine bA_ ?_ _)); exact BK242.out⟩, ⟨by (with_reducible repeat (first | refine bN_ ?_ _ | refine bD_ ?_ | refine bA_ ?_ _)); refine blk_far ?_ NB243_244.out _; (with_reducible repeat (first | refine bN_ ?_ _ | refine bD_ ?_ | refine bA_ ?_ _)); exact BK243.out⟩, ⟨by (with_reducible repeat (first | refine bN_ ?_ _ | refine bD_ ?_ | refine bA_ ?_ _)); refine blk_put (cs := #[.slice none 0 0]) ?_ 0 _ rfl; (with_reducible repeat (first | refine bN_ ?_ _ | refine bD_ ?_ | refine bA_ ?_ _)); exact BK244.out⟩, ⟨gW_ HB.out⟩⟩
 case round =>
  clear H'
  try clear p2
  try clear c5
  try clear c6
  try clear hcz7_0 hfz7_0
  obtain ⟨x4_1, x2450_1, u2450, rfl, HA, HK1, HO_245000, BK242, BK243, BK244, HB⟩ := hrel
  cases gk with
  | zero => exact absurd HA.out (by simp [spec_l6Copy.l0])
  | succ k1 =>
   have H := HA.out
   clear HA
   simp only [spec_l6Copy.l0] at H
   by_cases c8 : x4_1 < (l0_0.length : Int)
   ·rw [if_pos c8] at H
    have c8b0 : decide (x4_1 < (l0_0.length : Int)) = true := decide_eq_true c8
    clear c8
    obtain ⟨w, hw⟩ : ∃ x, x = wr := ⟨wr, rfl⟩
    have HBo : Aside0 (Below w00.heap.size w00 w) := ⟨by rw [hw]; exact HB.out⟩
    have HSo : Aside0 (Kd.S (sslice 43 k43) 44 w w00.heap.size (fun _ => True) u2450 x2450_1) := ⟨by rw [hw]; exact HO_245000.out⟩
    have HF : Aside0 (∀ k, w.heap.size ≤ k → True ∧ some k ≠ (u2450 : Value).ownBlock) := ⟨fun k hk => ⟨trivial, fun e => Nat.not_le.2 (Kd.S_lt HSo.out k e.symm) hk⟩⟩
    replace HB : Aside0 (Below w.heap.size w wr) := ⟨by rw [hw]; exact Below.refl _ _⟩
    replace HR0_0 := aM_ (Kd.C_below HR0_0.out HBo.out)
    replace HO_245000 := aM_ (S_Rs HO_245000.out)
    clear hw
    obtain ⟨y245, hy245⟩ : ∃ y_ : List (S43), y_ = (([] : List (S43))) := ⟨_, rfl⟩
    replace H : (spec_l6Copy.l1 k1 x4_1 y245 0 l0_0 x2450_1) = some r := by first | (rw [hy245]; with_reducible exact H) | (have H2_ := (Option.bind_some _ _).symm.trans H; rw [hy245]; with_reducible exact H2_) | (have H2_ := (Option.bind_some _ _).symm.trans H; with_reducible exact H2_) | with_reducible exact H | (rw [hy245]; exact H) | exact H
    have Ny245 := aM_ hy245
    clear hy245
    have H' := aM_ H
    clear H
    have hnb9 := NB242_243.out
    have hnc9 := NB243_242.out
    have hnb10 := NB242_244.out
    have hnc10 := NB244_242.out
    have hcz11_0 : wr.cell? ⟨gb242, 0, none⟩ = some (.slice A0_0 l0_0.length c0_0) := (blk_cell BK242.out 0).trans rfl
    have hfz11_0 := blk_frozen BK242.out 0
    go_wp2_with (first | ((with_reducible refine gate_dst (N := 15) rfl ?_); refine Kd.S_lit k43 _ 43 ?hg (N := 15) ?hd (xs := ([] : List (S43))) (inner := []) (ok := fun _ => True) (okp := fun _ => True) ?hr ?hp (fun _ hk => hk) trivial (Below.refl _ _) (Nat.le_refl _) (by simp) ?_; (case hd => rfl); (case hg => rfl); (case hr => first | (go_simp; done) | (go_simp; rfl)); (case hp => exact (Reps.none _ _)); intro v246 w12 ho13 hb hg_ hnew_; clear hg_ hnew_; (first | rw [← Ny245.out] at ho13 | (simp only [Int.reduceToNat] at ho13; rw [← Ny245.out] at ho13)); have n0 := aM_ (Kd.R_elder' (by (with_reducible repeat (first | apply rA_ | apply rN_ | apply rD_)); exact HO_245000.out) (Kd.S_base ho13) hb); have n1 := aM_ (Kd.S_lower ho13 (below_size (gB_ HB.out))); have n2 := aM_ (nB_ BK242.out hb); have n3 := aM_ (nB_ BK243.out hb); have n4 := aM_ (nB_ BK244.out hb); have n5 := aM_ (sT_ HB.out hb); clear HO_245000; clear BK242; clear BK243; clear BK244; clear HB; have HO_245000 := n0; have HO247 := n1; have BK242 := n2; have BK243 := n3; have BK244 := n4; have HB := n5; clear n0 n1 n2 n3 n4 n5; clear hb ho13))
    go_loopg [5, 6] k1 (fun kq v5 v6 w' => ∃ (x5_2 : List (S43)) (x6_2 : Int), v6 = .int .i64 x6_2 ∧ Aside0 (spec_l6Copy.l1 kq x4_1 x5_2 x6_2 l0_0 x2450_1 = some r) ∧ Aside0 (kq ≤ k1) ∧ Aside0 (Kd.S k43 43 w' w.heap.size (fun _ => True) v5 x5_2) ∧ Aside0 (Kd.R (Kd.slice 43 k43) 44 w' w00.heap.size (fun k_ => some k_ ≠ (v5 : Value).ownBlock) u2450 x2450_1) ∧ Aside0 (w'.heap[gb242]? = some (.cells #[(.slice A0_0 l0_0.length c0_0)] 24 (0, 0))) ∧ Aside0 (w'.heap[gb243]? = some (.cells #[(.slice none 0 0)] 24 (0, 0))) ∧ Aside0 (w'.heap[gb244]? = some (.cells #[u2450] 24 (0, 0))) ∧ Aside0 (Below w.heap.size w w'))
    case atStart => exact ⟨(y245), (0), (by first | rfl | (simp; done) | (simp [*]; done)), H', ⟨Nat.le_refl _⟩, ⟨by (with_reducible repeat (first | apply Kd.S_alloc | apply Kd.S_drewN | apply Kd.S_drew)); exact HO247.out⟩, ⟨by (with_reducible repeat (first | apply rA_ | apply rN_ | apply rD_)); exact Kd.R_mono HO_245000.out (fun _ hk => hk.2)⟩, ⟨rW_ BK242.out⟩, ⟨rW_ BK243.out⟩, ⟨rW_ BK244.out⟩, ⟨gW_ HB.out⟩⟩
    case round =>
     clear H'
     try clear c1
     try clear p2
     try clear c5
     try clear c6
     try clear c8
     try clear c8b0
     try clear c9
     try clear c10
     try clear hcz11_0 hfz11_0
     try clear hcz7_0 hfz7_0
     try clear p2
     obtain ⟨x5_2, x6_2, rfl, HA, HK2, HO_5, HO_245000, BK242, BK243, BK244, HB⟩ := hrel
     cases gk with
     | zero => exact absurd HA.out (by simp [spec_l6Copy.l1])
     | succ k2 =>
      have H := HA.out
      clear HA
      simp only [spec_l6Copy.l1] at H
      by_cases c14 : 0 ≤ x4_1
      ·rw [if_pos c14] at H
       have c14b0 : decide (0 ≤ x4_1) = true := decide_eq_true c14
       clear c14
       by_cases c15 : x4_1 < (l0_0.length : Int)
       ·rw [if_pos c15] at H
        have c15b0 : decide (x4_1 < (l0_0.length : Int)) = true := decide_eq_true c15
        clear c15
        by_cases c16 : x6_2 < ((rd_L4 l0_0 x4_1).length : Int)
        ·rw [if_pos c16] at H
         have c16b0 : decide (x6_2 < ((rd_L4 l0_0 x4_1).length : Int)) = true := decide_eq_true c16
         clear c16
         by_cases c17 : 0 ≤ x6_2
         ·rw [if_pos c17] at H
          have c17b0 : decide (0 ≤ x6_2) = true := decide_eq_true c17
          clear c17
          obtain ⟨y251, hy251⟩ : ∃ y_ : List Int, y_ = (([] : List Int)) := ⟨_, rfl⟩
          replace H : (if y251.length + ((rd_T43 (rd_L4 l0_0 x4_1) x6_2).f1).length < 17592186044416 then (if x5_2.length < 4398046511104 then (spec_l6Copy.l1 k2 x4_1 (x5_2 ++ [(⟨(rd_T43 (rd_L4 l0_0 x4_1) x6_2).f0, (y251 ++ ((rd_T43 (rd_L4 l0_0 x4_1) x6_2).f1))⟩ : S43)]) (wrap64 (x6_2 + 1)) l0_0 x2450_1) else (none)) else (none)) = some r := by first | (rw [hy251]; with_reducible exact H) | (have H2_ := (Option.bind_some _ _).symm.trans H; rw [hy251]; with_reducible exact H2_) | (have H2_ := (Option.bind_some _ _).symm.trans H; with_reducible exact H2_) | with_reducible exact H | (rw [hy251]; exact H) | exact H
          have Ny251 := aM_ hy251
          clear hy251
          by_cases c18 : y251.length + ((rd_T43 (rd_L4 l0_0 x4_1) x6_2).f1).length < 17592186044416
          ·rw [if_pos c18] at H
           have LMc18 := aM_ c18
           clear c18
           obtain ⟨y256, hy256⟩ : ∃ y_ : List Int, y_ = (y251 ++ ((rd_T43 (rd_L4 l0_0 x4_1) x6_2).f1)) := ⟨_, rfl⟩
           replace H : (if x5_2.length < 4398046511104 then (spec_l6Copy.l1 k2 x4_1 (x5_2 ++ [(⟨(rd_T43 (rd_L4 l0_0 x4_1) x6_2).f0, y256⟩ : S43)]) (wrap64 (x6_2 + 1)) l0_0 x2450_1) else (none)) = some r := by first | (rw [hy256]; with_reducible exact H) | (have H2_ := (Option.bind_some _ _).symm.trans H; rw [hy256]; with_reducible exact H2_) | (have H2_ := (Option.bind_some _ _).symm.trans H; with_reducible exact H2_) | with_reducible exact H | (rw [hy256]; exact H) | exact H
           have Ny256 := aM_ hy256
           clear hy256
           by_cases c19 : x5_2.length < 4398046511104
           ·rw [if_pos c19] at H
            have LMc19 := aM_ c19
            clear c19
            obtain ⟨y259, hy259⟩ : ∃ y_ : List (S43), y_ = (x5_2 ++ [(⟨(rd_T43 (rd_L4 l0_0 x4_1) x6_2).f0, y256⟩ : S43)]) := ⟨_, rfl⟩
            replace H : (spec_l6Copy.l1 k2 x4_1 y259 (wrap64 (x6_2 + 1)) l0_0 x2450_1) = some r := by first | (rw [hy259]; with_reducible exact H) | (have H2_ := (Option.bind_some _ _).symm.trans H; rw [hy259]; with_reducible exact H2_) | (have H2_ := (Option.bind_some _ _).symm.trans H; with_reducible exact H2_) | with_reducible exact H | (rw [hy259]; exact H) | exact H
            have Ny259 := aM_ hy259
            clear hy259
            have H' := aM_ H
            clear H
            have hnb20 := NB242_243.out
            have hnc20 := NB243_242.out
            have hnb21 := NB242_244.out
            have hnc21 := NB244_242.out
            have hcz22_0 : wr.cell? ⟨gb242, 0, none⟩ = some (.slice A0_0 l0_0.length c0_0) := (blk_cell BK242.out 0).trans rfl
            have hfz22_0 := blk_frozen BK242.out 0
            have p248 : 0 ≤ (x4_1 : Int) := of_decide_eq_true (by first | (with_reducible assumption) | assumption)
            have q248 : x4_1 < (l0_0.length : Int) := of_decide_eq_true (by first | (with_reducible assumption) | assumption)
            obtain ⟨ad248, A248_0, c248_0, e248, hx248_0, hl248_0, hi248_0⟩ := at_L4 HR0_0.out x4_1 p248 q248
            cases e248
            replace hx248_0 := cB_ HB.out hx248_0
            have HR248_0 := aM_ hi248_0
            have HC248_0 := aM_ hl248_0
            clear hi248_0 hl248_0
            replace p248 := eq_true p248
            replace q248 := eq_true q248
            try go_wp2
            have n0 := aM_ (Kd.S_drew HO_5.out)
            have n1 := aM_ (Kd.R_drew HO_245000.out)
            have n2 := aM_ (blk_drew BK242.out)
            have n3 := aM_ (blk_drew BK243.out)
            have n4 := aM_ (blk_drew BK244.out)
            have n5 := aM_ (below_drew1 HB.out)
            clear HO_5
            clear HO_245000
            clear BK242
            clear BK243
            clear BK244
            clear HB
            have HO_5 := n0
            have HO_245000 := n1
            have BK242 := n2
            have BK243 := n3
            have BK244 := n4
            have HB := n5
            clear n0 n1 n2 n3 n4 n5
            have p249 : 0 ≤ (x4_1 : Int) := of_decide_eq_true (by first | (with_reducible assumption) | assumption)
            have q249 : x4_1 < (l0_0.length : Int) := of_decide_eq_true (by first | (with_reducible assumption) | assumption)
            obtain ⟨ad249, A249_0, c249_0, e249, hx249_0, hl249_0, hi249_0⟩ := at_L4 HR0_0.out x4_1 p249 q249
            have hw249_0 := hx249_0
            obtain rfl : ad248 = ad249 := (by injection e249)
            replace hx249_0 := cB_ HB.out hx249_0
            have HR249_0 := aM_ hi249_0
            have HC249_0 := aM_ hl249_0
            clear hi249_0 hl249_0
            replace p249 := eq_true p249
            replace q249 := eq_true q249
            have p250 : 0 ≤ (x6_2 : Int) := of_decide_eq_true (by first | (with_reducible assumption) | assumption)
            have q250 : x6_2 < ((rd_L4 l0_0 x4_1).length : Int) := of_decide_eq_true (by first | (with_reducible assumption) | assumption)
            obtain ⟨ad250, A250_1, c250_1, e250, hx250_0, hx250_1, hl250_1, hi250_1⟩ := at_T43 HR249_0.out x6_2 p250 q250
            have hw250_1 := hx250_1
            have hw250_0 := hx250_0
            cases e250
            replace hx250_0 := cB_ HB.out hx250_0
            replace hx250_1 := cB_ HB.out hx250_1
            have HR250_1 := aM_ hi250_1
            have HC250_1 := aM_ hl250_1
            clear hi250_1 hl250_1
            replace p250 := eq_true p250
            replace q250 := eq_true q250
            have p254 : 0 ≤ (x4_1 : Int) := of_decide_eq_true (by first | (with_reducible assumption) | assumption)
            have q254 : x4_1 < (l0_0.length : Int) := of_decide_eq_true (by first | (with_reducible assumption) | assumption)
            obtain ⟨ad254, A254_0, c254_0, e254, hx254_0, hl254_0, hi254_0⟩ := at_L4 HR0_0.out x4_1 p254 q254
            have hw254_0 := hx254_0
            obtain rfl : ad248 = ad254 := (by injection e254)
            replace hx254_0 := cB_ HB.out hx254_0
            have HR254_0 := aM_ hi254_0
            have HC254_0 := aM_ hl254_0
            clear hi254_0 hl254_0
            replace p254 := eq_true p254
            replace q254 := eq_true q254
            have ea_ := Option.some.inj (hx249_0.symm.trans hx254_0)
            injection ea_ with ea_ en_ ec_
            subst ea_
            subst ec_
            clear en_
            have p255 : 0 ≤ (x6_2 : Int) := of_decide_eq_true (by first | (with_reducible assumption) | assumption)
            have q255 : x6_2 < ((rd_L4 l0_0 x4_1).length : Int) := of_decide_eq_true (by first | (with_reducible assumption) | assumption)
            obtain ⟨ad255, A255_1, c255_1, e255, hx255_0, hx255_1, hl255_1, hi255_1⟩ := at_T43 HR254_0.out x6_2 p255 q255
            have hw255_1 := hx255_1
            have hw255_0 := hx255_0
            cases e255
            replace hx255_0 := cB_ HB.out hx255_0
            replace hx255_1 := cB_ HB.out hx255_1
            have HR255_1 := aM_ hi255_1
            have HC255_1 := aM_ hl255_1
            clear hi255_1 hl255_1
            have ea_ := Option.some.inj (hx250_1.symm.trans hx255_1)
            injection ea_ with ea_ en_ ec_
            subst ea_
            subst ec_
            clear en_
            replace p255 := eq_true p255
            replace q255 := eq_true q255
            refine start_ (n := 25) (S := fun w' => w'.cell? ⟨gb242, 0, none⟩ = some (.slice (some ad248) l0_0.length c0_0) ∧ w'.cell? (ad248.add (x4_1).toNat) = some (.slice (some ad250) (rd_L4 l0_0 x4_1).length c249_0) ∧ w'.cell? (ad250.add ((x6_2).toNat * 2)) = some (.int .i64 ((rd_T43 (rd_L4 l0_0 x4_1) x6_2).f0)) ∧ w'.cell? ⟨(ad250.add ((x6_2).toNat * 2)).block, (ad250.add ((x6_2).toNat * 2)).off + 1, none⟩ = some (.slice A250_1 ((rd_T43 (rd_L4 l0_0 x4_1) x6_2).f1).length c250_1) ∧ w'.cell? (ad248.add (x4_1).toNat) = some (.slice (some ad250) (rd_L4 l0_0 x4_1).length c249_0) ∧ w'.cell? (ad250.add ((x6_2).toNat * 2)) = some (.int .i64 ((rd_T43 (rd_L4 l0_0 x4_1) x6_2).f0)) ∧ w'.cell? ⟨(ad250.add ((x6_2).toNat * 2)).block, (ad250.add ((x6_2).toNat * 2)).off + 1, none⟩ = some (.slice A250_1 ((rd_T43 (rd_L4 l0_0 x4_1) x6_2).f1).length c250_1)) (ds := []) (mk_ 25 0) (by kernel_rfl) rfl rfl ⟨(blk_cell BK242.out 0).trans rfl, (cB_ HB.out hw249_0 :), (cB_ HB.out hw250_0 :), (cB_ HB.out hw250_1 :), (cB_ HB.out hw254_0 :), (cB_ HB.out hw255_0 :), (cB_ HB.out hw255_1 :)⟩ (fun hHeld => ?_); refine with_tabW spec_l6Copy.tab9 spec_l6Copy.bits9 (fun HT_ HW_ => ?_)
            generalize wr.drew = w23 at HO_5 HO_245000 BK242 BK243 BK244 HB HR249_0 HR250_1 HR254_0 HR255_1 hx249_0 hx250_0 hx250_1 hx254_0 hx255_0 hx255_1 hHeld ⊢
            refine pU_ 0 (some 26) (mk_ 25 1) ?_
            refine pU_ 1 (some 27) (mk_ 25 3) ?_
            refine pU_ 3 (some 29) (mk_ 25 11) ?_
            refine pU_ 6 (some 32) (mk_ 25 75) ?_
            refine pU_ 11 (some 37) (mk_ 25 2123) ?_
            refine pU_ 13 (some 39) (mk_ 25 10315) ?_
            refine pU_ 16 (some 42) (mk_ 25 75851) ?_
            refine tK7_ 2 (some 28) (mk_ 25 75855) ?_
            refine pU_ 4 (some 30) (mk_ 25 75871) ?_
            refine tK7_ 5 (some 31) (mk_ 25 75903) ?_
            refine pU_ 7 (some 33) (mk_ 25 76031) ?_
            refine pU_ 8 (some 34) (mk_ 25 76287) ?_
            refine tK7_ 9 (some 35) (mk_ 25 76799) ?_
            refine tK7_ 12 (some 38) (mk_ 25 80895) ?_
            refine pU_ 14 (some 40) (mk_ 25 97279) ?_
            refine tK7_ 15 (some 41) (mk_ 25 130047) ?_
            refine pU_ 17 (some 43) (mk_ 25 261119) ?_
            refine pU_ 18 (some 44) (mk_ 25 523263) ?_
            refine tK7_ 19 (some 45) (mk_ 25 1047551) ?_
            refine oN_ 10 (some 36) (mk_ 25 1048575) (fun K hK => ?_)
            refine Kd.R_lit_step (Kd.int .i64) _ 3 ?hg (N := 36) ?hd (xs := ([] : List Int)) (inner := []) (ok := fun _ => True) (okp := fun _ => True) ?hr ?hp (fun _ hk => hk) trivial (Below.refl _ _) (Nat.le_refl _) (by simp) ?_; (case hd => rfl); (case hg => rfl); (case hr => first | (go_simp; done) | (go_simp; rfl)); (case hp => exact (Reps.none _ _))
            intro v252 w24 ho25 hb hg_ hnew_
            clear hg_ hnew_
            (first | rw [← Ny251.out] at ho25 | (simp only [Int.reduceToNat] at ho25; rw [← Ny251.out] at ho25))
            have n0 := aM_ (Kd.S_elder' (by (with_reducible repeat (first | apply Kd.S_alloc | apply Kd.S_drewN | apply Kd.S_drew)); exact HO_5.out) (Kd.R_base ho25) hb)
            have n1 := aM_ (Kd.R_elder' (by (with_reducible repeat (first | apply rA_ | apply rN_ | apply rD_)); exact HO_245000.out) (Kd.R_base ho25) hb)
            have n2 := aM_ (Kd.R_lower ho25 (below_size (gB_ HB.out)))
            have n3 := aM_ (nB_ BK242.out hb)
            have n4 := aM_ (nB_ BK243.out hb)
            have n5 := aM_ (nB_ BK244.out hb)
            have n6 := aM_ (sT_ HB.out hb)
            clear HO_5
            clear HO_245000
            clear BK242
            clear BK243
            clear BK244
            clear HB
            have HO_5 := n0
            have HO_245000 := n1
            have HO253 := n2
            have BK242 := n3
            have BK243 := n4
            have BK244 := n5
            have HB := n6
            clear n0 n1 n2 n3 n4 n5 n6
            clear hb ho25
            refine hK.out _ _ ⟨(blk_cell BK242.out 0).trans rfl, (cB_ HB.out hw249_0 :), (cB_ HB.out hw250_0 :), (cB_ HB.out hw250_1 :), (cB_ HB.out hw254_0 :), (cB_ HB.out hw255_0 :), (cB_ HB.out hw255_1 :)⟩ (fun hHeld => ?_)
            clear hK K
            refine norm_ (a' := ?_) ?_ ?_
            rotate_left
            ·show Act.put _ (some 36) _ = _
             simp only [pt_, pn_, sI_, s0_, s1_, i64_w, i32_w]
             rfl
            refine oN_ 20 (some 46) (mk_ 25 2097151) (fun K hK => ?_)
            refine Kd.R_append_rows_step (Kd.int .i64) (w0 := w) w.heap.size (by rfl) (.tmp 36) (.tmp 45) 31 3 (.int .i64 0) 8 rfl Try.underlying31 info3 rfl (by decide) (by omega) v252 y251 ((rd_T43 (rd_L4 l0_0 x4_1) x6_2).f1) _ _ _ (fun _ => True) (fun _ => False) rfl rfl ?aO ?aR (fun _ _ h => h) (fun _ h => h.elim) ?aF ?aB ?aS ?aL ?_
            (case aR => repeat (first | exact (Kd.C_below HR255_1.out HB.out) | (with_reducible refine Kd.C_alloc ?_ _) | (with_reducible refine Kd.C_drewN ?_ _) | (with_reducible refine Kd.C_drew ?_)))
            (case aB => exact (gB_ HB.out))
            (case aF => exact (fun _ _ => trivial))
            (case aO => exact (by (with_reducible repeat (first | apply rA_ | apply rN_ | apply rD_)); exact HO253.out))
            (case aS => exact (below_size (gB_ HB.out)))
            (case aL => have := LMc18.out; omega)
            intro v257 w26 ho hb hg hat
            rw [← Ny256.out] at ho
            have n0 := aM_ (Kd.S_after (ok := (fun _ => True)) (by (with_reducible repeat (first | apply Kd.S_alloc | apply Kd.S_drewN | apply Kd.S_drew)); exact HO_5.out) hg hat)
            have n1 := aM_ (Kd.R_after (ok := (fun k_ => some k_ ≠ (u5 : Value).ownBlock)) (by (with_reducible repeat (first | apply rA_ | apply rN_ | apply rD_)); exact HO_245000.out) hg hat)
            have n2 := aM_ (blk_grown (g := gb242) (o := .cells #[.slice (some ad248) l0_0.length c0_0] 24 (0, 0)) (by (with_reducible repeat (first | refine bN_ ?_ _ | refine bD_ ?_ | refine bA_ ?_ _)); exact BK242.out) hg (Kd.R_ne HO253.out BK242.out (by decide)))
            have n3 := aM_ (blk_grown (g := gb243) (o := .cells #[.slice none 0 0] 24 (0, 0)) (by (with_reducible repeat (first | refine bN_ ?_ _ | refine bD_ ?_ | refine bA_ ?_ _)); exact BK243.out) hg (Kd.R_ne HO253.out BK243.out (by decide)))
            have n4 := aM_ (blk_grown (g := gb244) (o := .cells #[u2450] 24 (0, 0)) (by (with_reducible repeat (first | refine bN_ ?_ _ | refine bD_ ?_ | refine bA_ ?_ _)); exact BK244.out) hg (Kd.R_ne HO253.out BK244.out (by decide)))
            have n5 := aM_ (hb)
            have n6 := aM_ (ho)
            clear HO_5
            clear HO_245000
            clear BK242
            clear BK243
            clear BK244
            clear HB
            clear HO253
            have HO_5 := n0
            have HO_245000 := n1
            have BK242 := n2
            have BK243 := n3
            have BK244 := n4
            have HB := n5
            have HO258 := n6
            clear n0 n1 n2 n3 n4 n5 n6
            clear ho hb hg hat
            obtain ⟨Ao27, co27, eo27⟩ := Kd.R_slice HO258.out
            (first | subst eo27 | (injection eo27 with f1_ f2_ f3_; have f4_ := f1_.symm; have f5_ := f3_.symm; clear f1_ f2_ f3_; subst f4_; subst f5_))
            refine hK.out _ _ ⟨(blk_cell BK242.out 0).trans rfl, (cB_ HB.out hw249_0 :), (cB_ HB.out hw250_0 :), (cB_ HB.out hw250_1 :), (cB_ HB.out hw254_0 :), (cB_ HB.out hw255_0 :), (cB_ HB.out hw255_1 :)⟩ (fun hHeld => ?_)
            clear hK K
            refine norm_ (a' := ?_) ?_ ?_
            rotate_left
            ·show Act.put _ (some 46) _ = _
             simp only [pt_, pn_, sI_, s0_, s1_, i64_w, i32_w]
             rfl
            refine pU_ 21 (some 47) (mk_ 25 4194303) ?_
            refine oN_ 22 (some 48) (mk_ 25 8388607) (fun K hK => ?_)
            refine value_ (w1 := ?_) (v := ?_) (by rfl) rfl ?_ ?_
            rotate_left 2
            ·go_simp
             constructor
             ·rfl
             ·rfl
            refine hK.out _ _ ⟨(blk_cell (blk_alloc BK242.out _) 0).trans rfl, (World.cell?_alloc_lt _ _ _ (World.block_lt_of_cell? _ _ ((cB_ HB.out hw249_0 :)))).trans ((cB_ HB.out hw249_0 :)), (World.cell?_alloc_lt _ _ _ (World.block_lt_of_cell? _ _ ((cB_ HB.out hw250_0 :)))).trans ((cB_ HB.out hw250_0 :)), (World.cell?_alloc_lt _ _ _ (World.block_lt_of_cell? _ _ ((cB_ HB.out hw250_1 :)))).trans ((cB_ HB.out hw250_1 :)), (World.cell?_alloc_lt _ _ _ (World.block_lt_of_cell? _ _ ((cB_ HB.out hw254_0 :)))).trans ((cB_ HB.out hw254_0 :)), (World.cell?_alloc_lt _ _ _ (World.block_lt_of_cell? _ _ ((cB_ HB.out hw255_0 :)))).trans ((cB_ HB.out hw255_0 :)), (World.cell?_alloc_lt _ _ _ (World.block_lt_of_cell? _ _ ((cB_ HB.out hw255_1 :)))).trans ((cB_ HB.out hw255_1 :))⟩ (fun hHeld => ?_)
            clear hK K
            refine norm_ (a' := ?_) ?_ ?_
            rotate_left
            ·show Act.put _ (some 48) _ = _
             simp only [pt_, pn_, sI_, s0_, s1_, i64_w, i32_w]
             rfl
            refine oN_ 23 (some 49) (mk_ 25 16777215) (fun K hK => ?_)
            refine Kd.S_append_step k43 (w0 := w) w.heap.size (by rfl) (.tmp 26) (.tmp 48) 44 43 (.agg #[(.int .i64 0), (.slice none 0 0)]) 32 rfl Try.underlying44 info43 rfl (by decide) (by omega) u5 x5_2 (⟨(rd_T43 (rd_L4 l0_0 x4_1) x6_2).f0, y256⟩ : S43) [.int .i64 ((rd_T43 (rd_L4 l0_0 x4_1) x6_2).f0), .slice Ao27 y256.length co27] (fun _ => True) (fun k_ => some k_ = (.slice Ao27 y256.length co27 : Value).ownBlock) rfl rfl ?aP (fun k_ hk_ => ((Kd.R_mono (ok' := fun k_ => ((fun _ => True)) k_ ∧ some k_ ≠ (u5 : Value).ownBlock) (Kd.R_apart' (HO258.out) (Kd.S_typed HO_5.out) (by decide)) (fun k_ hk => ⟨trivial, hk.2⟩))).1 k_ hk_.symm) ?aF ?aO ?aB ?aS ?aL ?_
            (case aP => exact k43_mkM _ _ _ (⟨(rd_T43 (rd_L4 l0_0 x4_1) x6_2).f0, y256⟩ : S43) (Kd.R_mono (Kd.R_tight rfl (Kd.R_mono (ok' := fun k_ => ((fun _ => True)) k_ ∧ some k_ ≠ (u5 : Value).ownBlock) (Kd.R_apart' (HO258.out) (Kd.S_typed HO_5.out) (by decide)) (fun k_ hk => ⟨trivial, hk.2⟩))) (fun _ h_ => h_)))
            (case aB => exact (gB_ HB.out))
            (case aF => exact (fun _ _ => trivial))
            (case aO => exact (by (with_reducible repeat (first | apply Kd.S_alloc | apply Kd.S_drewN | apply Kd.S_drew)); exact Kd.S_mono HO_5.out (fun k_ hk => ⟨trivial, fun e_ => hk.2 e_⟩)))
            (case aS => exact (below_size (gB_ HB.out)))
            (case aL => have := LMc19.out; omega)
            intro v260 w28 ho hb hg hat
            rw [← Ny259.out] at ho
            have n0 := aM_ (Kd.R_after (ok := (fun k_ => some k_ ≠ (.slice Ao27 y256.length co27 : Value).ownBlock)) (by (with_reducible repeat (first | apply rA_ | apply rN_ | apply rD_)); exact Kd.R_mono HO_245000.out (fun _ hk => ⟨hk.2, hk.1⟩)) hg hat)
            have n1 := aM_ (blk_grown (g := gb242) (o := .cells #[.slice (some ad248) l0_0.length c0_0] 24 (0, 0)) (by (with_reducible repeat (first | refine bN_ ?_ _ | refine bD_ ?_ | refine bA_ ?_ _)); exact BK242.out) hg (Kd.S_ne HO_5.out BK242.out (by decide)))
            have n2 := aM_ (blk_grown (g := gb243) (o := .cells #[.slice none 0 0] 24 (0, 0)) (by (with_reducible repeat (first | refine bN_ ?_ _ | refine bD_ ?_ | refine bA_ ?_ _)); exact BK243.out) hg (Kd.S_ne HO_5.out BK243.out (by decide)))
            have n3 := aM_ (blk_grown (g := gb244) (o := .cells #[u2450] 24 (0, 0)) (by (with_reducible repeat (first | refine bN_ ?_ _ | refine bD_ ?_ | refine bA_ ?_ _)); exact BK244.out) hg (Kd.S_ne HO_5.out BK244.out (by decide)))
            have n4 := aM_ (hb)
            have n5 := aM_ (ho)
            clear HO_245000
            clear BK242
            clear BK243
            clear BK244
            clear HB
            clear HO_5
            clear HO258
            have HO_245000 := n0
            have BK242 := n1
            have BK243 := n2
            have BK244 := n3
            have HB := n4
            have HO261 := n5
            clear n0 n1 n2 n3 n4 n5
            clear ho hb hg hat
            refine hK.out _ _ ⟨(blk_cell BK242.out 0).trans rfl, (cB_ HB.out hw249_0 :), (cB_ HB.out hw250_0 :), (cB_ HB.out hw250_1 :), (cB_ HB.out hw254_0 :), (cB_ HB.out hw255_0 :), (cB_ HB.out hw255_1 :)⟩ (fun hHeld => ?_)
            clear hK K
            refine norm_ (a' := ?_) ?_ ?_
            rotate_left
            ·show Act.put _ (some 49) _ = _
             simp only [pt_, pn_, sI_, s0_, s1_, i64_w, i32_w]
             rfl
            refine pU_ 24 (some 5) (mk_ 25 33554431) ?_
            refine done_ (done_of HT_.out (by kernel_rfl)) ?_
            try go_wp2
            go_roundg k2
            case measure => have := HK1.out; have := HK2.out; omega
            case rel => exact ⟨(y259), (wrap64 (x6_2 + 1)), (by first | rfl | (simp; done) | (simp [*]; done)), H', ⟨by have := HK1.out; have := HK2.out; omega⟩, ⟨by (with_reducible repeat (first | apply Kd.S_alloc | apply Kd.S_drewN | apply Kd.S_drew)); exact HO261.out⟩, ⟨by (with_reducible repeat (first | apply rA_ | apply rN_ | apply rD_)); exact Kd.R_mono HO_245000.out (fun _ hk => hk.2)⟩, ⟨rW_ BK242.out⟩, ⟨rW_ BK243.out⟩, ⟨rW_ BK244.out⟩, ⟨gW_ HB.out⟩⟩
           ·rw [if_neg c19] at H
            exact absurd H (by simp)
          ·rw [if_neg c18] at H
           exact absurd H (by simp)
         ·rw [if_neg c17] at H
          exact absurd H (by simp)
        ·rw [if_neg c16] at H
         have c16b0 : decide (x6_2 < ((rd_L4 l0_0 x4_1).length : Int)) = false := decide_eq_false c16
         clear c16
         by_cases c29 : x2450_1.length < 5864062014805
         ·rw [if_pos c29] at H
          have LMc29 := aM_ c29
          clear c29
          obtain ⟨y262, hy262⟩ : ∃ y_ : List (List (S43)), y_ = (x2450_1 ++ [x5_2]) := ⟨_, rfl⟩
          replace H : (spec_l6Copy.l0 k2 (wrap64 (x4_1 + 1)) l0_0 y262) = some r := by first | (rw [hy262]; with_reducible exact H) | (have H2_ := (Option.bind_some _ _).symm.trans H; rw [hy262]; with_reducible exact H2_) | (have H2_ := (Option.bind_some _ _).symm.trans H; with_reducible exact H2_) | with_reducible exact H | (rw [hy262]; exact H) | exact H
          have Ny262 := aM_ hy262
          clear hy262
          have H' := aM_ H
          clear H
          have hnb30 := NB242_243.out
          have hnc30 := NB243_242.out
          have hnb31 := NB242_244.out
          have hnc31 := NB244_242.out
          have hcz32_0 : wr.cell? ⟨gb242, 0, none⟩ = some (.slice A0_0 l0_0.length c0_0) := (blk_cell BK242.out 0).trans rfl
          have hfz32_0 := blk_frozen BK242.out 0
          have p248 : 0 ≤ (x4_1 : Int) := of_decide_eq_true (by first | (with_reducible assumption) | assumption)
          have q248 : x4_1 < (l0_0.length : Int) := of_decide_eq_true (by first | (with_reducible assumption) | assumption)
          obtain ⟨ad248, A248_0, c248_0, e248, hx248_0, hl248_0, hi248_0⟩ := at_L4 HR0_0.out x4_1 p248 q248
          cases e248
          replace hx248_0 := cB_ HB.out hx248_0
          have HR248_0 := aM_ hi248_0
          have HC248_0 := aM_ hl248_0
          clear hi248_0 hl248_0
          replace p248 := eq_true p248
          replace q248 := eq_true q248
          have hnb33 := NB244_243.out
          have hnc33 := NB243_244.out
          have hcz34_0 : wr.cell? ⟨gb244, 0, none⟩ = some (u2450) := (blk_cell BK244.out 0).trans rfl
          have hfz34_0 := blk_frozen BK244.out 0
          obtain ⟨Ao36, co36, eo36⟩ := Kd.S_slice HO_5.out
          subst eo36
          go_wp2_with (first | ((with_reducible refine gate_builtin (b := .append) (xs := #[.tmp 51, .tmp 53]) rfl ?_); at_builtin; refine Kd.S_append (sslice 43 k43) (w0 := w00) w00.heap.size rfl (.tmp 51) (.tmp 53) 22 44 (.slice none 0 0) 24 rfl Try.underlying22 info44 rfl (by decide) (by omega) u2450 x2450_1 x5_2 [.slice Ao36 x5_2.length co36] (fun _ => True) (fun k_ => w.heap.size ≤ k_) rfl rfl ?aP HF.out ?aF ?aO ?aB ?aS ?aL ?_; (case aP => exact ⟨_, rfl, Kd.S_lower (Kd.S_mono (Kd.S_bound HO_5.out) (fun _ hk => hk.2.1)) (below_size HBo.out)⟩); (case aB => exact (below_step HBo.out HB.out)); (case aF => exact (fun _ _ => trivial)); (case aO => exact (Kd.S_mono (Kd.S_old HSo.out HB.out) (fun _ hk => ⟨trivial, Nat.not_le.2 hk.2⟩))); (case aS => exact (below_size (below_step HBo.out HB.out))); (case aL => have := LMc29.out; omega); intro v263 w35 ho hb hg hat; rw [← Ny262.out] at ho; have n0 := aM_ (blk_grown (g := gb242) (o := .cells #[.slice (some ad248) l0_0.length c0_0] 24 (0, 0)) (by (with_reducible repeat (first | refine bN_ ?_ _ | refine bD_ ?_ | refine bA_ ?_ _)); exact BK242.out) hg (Kd.R_ne HO_245000.out BK242.out (by decide))); have n1 := aM_ (blk_grown (g := gb243) (o := .cells #[.slice none 0 0] 24 (0, 0)) (by (with_reducible repeat (first | refine bN_ ?_ _ | refine bD_ ?_ | refine bA_ ?_ _)); exact BK243.out) hg (Kd.R_ne HO_245000.out BK243.out (by decide))); have n2 := aM_ (blk_grown (g := gb244) (o := .cells #[u2450] 24 (0, 0)) (by (with_reducible repeat (first | refine bN_ ?_ _ | refine bD_ ?_ | refine bA_ ?_ _)); exact BK244.out) hg (Kd.R_ne HO_245000.out BK244.out (by decide))); have n3 := aM_ (hb); have n4 := aM_ (ho); clear BK242; clear BK243; clear BK244; clear HB; clear HO_245000; clear HO_5; have BK242 := n0; have BK243 := n1; have BK244 := n2; have HB := n3; have HO264 := n4; clear n0 n1 n2 n3 n4; clear ho hb hg hat; obtain ⟨Ao37, co37, eo37⟩ := Kd.S_slice HO264.out; subst eo37; have hcz38_0 : w35.cell? ⟨gb244, 0, none⟩ = some (u2450) := (blk_cell BK244.out 0).trans rfl; have hfz38_0 := blk_frozen BK244.out 0))
          go_roundg k2
          case measure => have := HK1.out; have := HK2.out; omega
          case rel => exact ⟨(wrap64 (x4_1 + 1)), (y262), (.slice Ao37 y262.length co37), (by first | rfl | (simp; done) | (simp [*]; done)), H', ⟨by have := HK1.out; have := HK2.out; omega⟩, ⟨by (with_reducible repeat (first | apply Kd.S_alloc | apply Kd.S_drewN | apply Kd.S_drew)); exact Kd.S_mono (Kd.S_far (p := ⟨gb244, 0, none⟩) (Kd.S_types HO264.out BK244.out (by decide)) (fun _ hk => hk.2) (.slice Ao37 y262.length co37)) (fun _ hk => trivial)⟩, ⟨by (with_reducible repeat (first | refine bN_ ?_ _ | refine bD_ ?_ | refine bA_ ?_ _)); refine blk_far ?_ NB242_244.out _; (with_reducible repeat (first | refine bN_ ?_ _ | refine bD_ ?_ | refine bA_ ?_ _)); exact BK242.out⟩, ⟨by (with_reducible repeat (first | refine bN_ ?_ _ | refine bD_ ?_ | refine bA_ ?_ _)); refine blk_far ?_ NB243_244.out _; (with_reducible repeat (first | refine bN_ ?_ _ | refine bD_ ?_ | refine bA_ ?_ _)); exact BK243.out⟩, ⟨by (with_reducible repeat (first | refine bN_ ?_ _ | refine bD_ ?_ | refine bA_ ?_ _)); refine blk_put (cs := #[u2450]) ?_ 0 _ rfl; (with_reducible repeat (first | refine bN_ ?_ _ | refine bD_ ?_ | refine bA_ ?_ _)); exact BK244.out⟩, ⟨gW_ HB.out⟩⟩
         ·rw [if_neg c29] at H
          exact absurd H (by simp)
       ·rw [if_neg c15] at H
        exact absurd H (by simp)
      ·rw [if_neg c14] at H
       exact absurd H (by simp)
   ·rw [if_neg c8] at H
    have c8b0 : decide (x4_1 < (l0_0.length : Int)) = false := decide_eq_false c8
    clear c8
    obtain rfl := Option.some.inj H
    have hnb39 := NB242_243.out
    have hnc39 := NB243_242.out
    have hnb40 := NB242_244.out
    have hnc40 := NB244_242.out
    have hcz41_0 : wr.cell? ⟨gb242, 0, none⟩ = some (.slice A0_0 l0_0.length c0_0) := (blk_cell BK242.out 0).trans rfl
    have hfz41_0 := blk_frozen BK242.out 0
    have hnb42 := NB244_243.out
    have hnc42 := NB243_244.out
    have hcz43_0 : wr.cell? ⟨gb244, 0, none⟩ = some (u2450) := (blk_cell BK244.out 0).trans rfl
    have hfz43_0 := blk_frozen BK244.out 0
    obtain ⟨Ao44, co44, eo44⟩ := Kd.S_slice HO_245000.out
    subst eo44
    have hcz45_0 : wr.cell? ⟨gb243, 0, none⟩ = some (.slice none 0 0) := (blk_cell BK243.out 0).trans rfl
    have hfz45_0 := blk_frozen BK243.out 0
    go_wp2
    refine bodyPost_ret (results_cell_row rfl _ _ gb243 24 #[.slice Ao44 x2450_1.length co44] (0, 0) _ rfl (by (with_reducible repeat (first | refine bN_ ?_ _ | refine bD_ ?_ | refine bA_ ?_ _)); refine blk_put (cs := #[.slice none 0 0]) ?_ 0 _ rfl; exact rW_ BK243.out) Try.underlying24 rfl (by kernel_rfl)) rfl ?_
    exact ⟨_, fR_, by (with_reducible repeat (first | apply Kd.S_alloc | apply Kd.S_drewN | apply Kd.S_drew)); exact Kd.S_mono (Kd.S_far (p := ⟨gb243, 0, none⟩) (Kd.S_types HO_245000.out BK243.out (by decide)) (fun _ hk => hk.2) (.slice Ao44 x2450_1.length co44)) (fun _ hk => trivial), gB_ HB.out⟩
end Go.Proofs.Ythbcnakmnbilhaa.PFnSwap
