/- A part of the proof that the law FnExactLoad holds for every input: the words, functions and walks that its row needs, without a condition of their own. -/
import Derived.Test.YthbcnakmnbilhaaZFnExactLoada2
import Derived.Test.YthbcnakmnbilhaaZFnExactLoada3
import Derived.Test.YthbcnakmnbilhaaZFnExactLoada4
import Derived.Test.YthbcnakmnbilhaaZFnExactLoads
namespace Go.Proofs.Ythbcnakmnbilhaa.PFnExactLoad
open Go.RowKit Go.Proofs.YthbcnakmnbilhaaW.PrintWords Go.Proofs.YthbcnakmnbilhaaW.PrintLast Go.Proofs.YthbcnakmnbilhaaW.PrintMore
attribute [local go_sem] max2_int min2_int max_two min_two max_three min_three max_four min_four   -- for this text's walks alone
set_option linter.unusedVariables false
set_option linter.unusedSimpArgs false
def impl_Load.f (k : Nat) (l0_0 : List (List (S43))) (l1 : List Int) (a2 : Int) (a3 : Int) (a4 : Bool) : Option (Int × List Int) := (impl_MemoryOk.f k l0_0).bind fun t156 => (if t156 = true then ((impl_ViewOk.f k l0_0 l1).bind fun t157 => (if t157 = true then ((impl_isCell.f a2).bind fun t158 => (if t158 = true then ((impl_Memory_load.f k l0_0 l1 a2 a3 a4).bind fun bt159 => (some (bt159.1, bt159.2))) else ((impl_copyInts.f l1).bind fun t163 => (some (0, t163))))) else ((impl_copyInts.f l1).bind fun t166 => (some (0, t166))))) else ((impl_copyInts.f l1).bind fun t169 => (some (0, t169))))
set_option maxHeartbeats 8000000 in
set_option maxRecDepth 100000 in
theorem impl_Load.calls (k : Nat) (A0_0 : Option Addr) (c0_0 : Nat) (l0_0 : List (List (S43))) (A1 : Option Addr) (c1 : Nat) (l1 : List Int) (a2 : Int) (a3 : Int) (a4 : Bool) (r1 : Int) (r2 : List Int) (w : World) (hr0_0 : Kd.C (Kd.slice 43 k43) w A0_0 l0_0.length l0_0) (hc0_0 : l0_0.length ≤ c0_0) (hr1 : Kd.C (Kd.int .i64) w A1 l1.length l1) (hc1 : l1.length ≤ c1) (h : impl_Load.f k l0_0 l1 a2 a3 a4 = some (r1, r2)) :
  Calls Try.prog 21 #[.agg #[.slice A0_0 l0_0.length c0_0], .slice A1 l1.length c1, .int .i64 a2, .int .i64 a3, .bool a4] w fun e w' => ∃ v1_ : Value, e = .returned (.tuple #[.int .i64 r1, v1_]) ∧ Kd.R (Kd.int .i64) 3 w' w.heap.size (fun _ => True) v1_ r2 ∧ Below w.heap.size w w' := by
 have hu24 := Try.underlying24
 have HR0_0 := aM_ hr0_0
 have HC0_0 := aM_ hc0_0
 clear hr0_0 hc0_0
 have HR1 := aM_ hr1
 have HC1 := aM_ hc1
 clear hr1 hc1
 have HB := aM_ (Below.refl w.heap.size w)
 have H : ((impl_MemoryOk.f k l0_0).bind fun t156 => (if t156 = true then ((impl_ViewOk.f k l0_0 l1).bind fun t157 => (if t157 = true then ((impl_isCell.f a2).bind fun t158 => (if t158 = true then ((impl_Memory_load.f k l0_0 l1 a2 a3 a4).bind fun bt159 => (some (bt159.1, bt159.2))) else ((impl_copyInts.f l1).bind fun t163 => (some (0, t163))))) else ((impl_copyInts.f l1).bind fun t166 => (some (0, t166))))) else ((impl_copyInts.f l1).bind fun t169 => (some (0, t169))))) = some (r1, r2) := h
 clear h
 replace H := Option.bind_eq_some_iff.mp H
 obtain ⟨t156, A60, H⟩ := H
 replace H : (if t156 = true then ((impl_ViewOk.f k l0_0 l1).bind fun t157 => (if t157 = true then ((impl_isCell.f a2).bind fun t158 => (if t158 = true then ((impl_Memory_load.f k l0_0 l1 a2 a3 a4).bind fun bt159 => (some (bt159.1, bt159.2))) else ((impl_copyInts.f l1).bind fun t163 => (some (0, t163))))) else ((impl_copyInts.f l1).bind fun t166 => (some (0, t166))))) else ((impl_copyInts.f l1).bind fun t169 => (some (0, t169)))) = some (r1, r2) := H
 have A6 := aM_ A60
 clear A60
 by_cases c7 : t156 = true
 ·subst c7
  have H1 : ((impl_ViewOk.f k l0_0 l1).bind fun t157 => (if t157 = true then ((impl_isCell.f a2).bind fun t158 => (if t158 = true then ((impl_Memory_load.f k l0_0 l1 a2 a3 a4).bind fun bt159 => (some (bt159.1, bt159.2))) else ((impl_copyInts.f l1).bind fun t163 => (some (0, t163))))) else ((impl_copyInts.f l1).bind fun t166 => (some (0, t166))))) = some (r1, r2) := by rw [if_pos rfl] at H; exact H
  clear H
  have H := H1
  clear H1
  replace H := Option.bind_eq_some_iff.mp H
  obtain ⟨t157, A80, H⟩ := H
  replace H : (if t157 = true then ((impl_isCell.f a2).bind fun t158 => (if t158 = true then ((impl_Memory_load.f k l0_0 l1 a2 a3 a4).bind fun bt159 => (some (bt159.1, bt159.2))) else ((impl_copyInts.f l1).bind fun t163 => (some (0, t163))))) else ((impl_copyInts.f l1).bind fun t166 => (some (0, t166)))) = some (r1, r2) := H
  have A8 := aM_ A80
  clear A80
  by_cases c9 : t157 = true
  ·subst c9
   have H1 : ((impl_isCell.f a2).bind fun t158 => (if t158 = true then ((impl_Memory_load.f k l0_0 l1 a2 a3 a4).bind fun bt159 => (some (bt159.1, bt159.2))) else ((impl_copyInts.f l1).bind fun t163 => (some (0, t163))))) = some (r1, r2) := by rw [if_pos rfl] at H; exact H
   clear H
   have H := H1
   clear H1
   replace H := Option.bind_eq_some_iff.mp H
   obtain ⟨t158, A100, H⟩ := H
   replace H : (if t158 = true then ((impl_Memory_load.f k l0_0 l1 a2 a3 a4).bind fun bt159 => (some (bt159.1, bt159.2))) else ((impl_copyInts.f l1).bind fun t163 => (some (0, t163)))) = some (r1, r2) := H
   have A10 := aM_ A100
   clear A100
   by_cases c11 : t158 = true
   ·subst c11
    have H1 : ((impl_Memory_load.f k l0_0 l1 a2 a3 a4).bind fun bt159 => (some (bt159.1, bt159.2))) = some (r1, r2) := by rw [if_pos rfl] at H; exact H
    clear H
    have H := H1
    clear H1
    replace H := Option.bind_eq_some_iff.mp H
    obtain ⟨⟨t159, t160⟩, A120, H⟩ := H
    replace H : (some (t159, t160)) = some (r1, r2) := H
    have A12 := aM_ A120
    clear A120
    simp only [Option.some.injEq, Prod.mk.injEq] at H
    obtain ⟨rfl, rfl⟩ := H
    go_enter Try.func21, Try.ntmps21
    go_wp2_with (first | ((with_reducible refine gate_dst (N := 5) rfl ?_); refine bX_ 5 (cs := #[.slice A0_0 l0_0.length c0_0]) (t := 24) ?_; intro gb155 hg w13 hbox hb; have n0 := aM_ (sT_ HB.out hb); have n1 := aM_ (hbox); have n2 := aM_ (sZ_ hg HB.out); have n3 := aM_ (sZ_ hg HB.out); clear HB; have HB := n0; have BK155 := n1; have GW155 := n2; have GE155 := n3; clear n0 n1 n2 n3; clear hb hbox hg; have hcz14_0 : w13.cell? ⟨gb155, 0, none⟩ = some (.slice A0_0 l0_0.length c0_0) := (blk_cell BK155.out 0).trans rfl; have hfz14_0 := blk_frozen BK155.out 0) | ((with_reducible refine gate_callee (f := 26) rfl ?_); refine gL_ (some 13) Try.func26 #[.agg #[.slice A0_0 l0_0.length c0_0]] ?_; (with_reducible refine (impl_MemoryOk.calls k _ _ l0_0 true _ ?side1 ?side2 A6.out).mono ?_); (case side1 => exact cS_ (Kd.C_below HR0_0.out HB.out)); (case side2 => exact HC0_0.out); rintro e w15 ⟨rfl, hb⟩; refine ⟨_, rfl, ?_⟩; have n0 := aM_ (nB_ BK155.out hb); have n1 := aM_ (sT_ HB.out hb); clear BK155; clear HB; have BK155 := n0; have HB := n1; clear n0 n1; have hcz16_0 : w15.cell? ⟨gb155, 0, none⟩ = some (.slice A0_0 l0_0.length c0_0) := (blk_cell BK155.out 0).trans rfl; have hfz16_0 := blk_frozen BK155.out 0) | (go_at_call 28; (with_reducible refine (impl_ViewOk.calls k _ _ l0_0 _ _ l1 true _ ?side1 ?side2 ?side3 ?side4 A8.out).mono ?_); (case side1 => exact cS_ (Kd.C_below HR0_0.out HB.out)); (case side2 => exact HC0_0.out); (case side3 => exact cS_ (Kd.C_below HR1.out HB.out)); (case side4 => exact HC1.out); rintro e w17 ⟨rfl, hb⟩; have n0 := aM_ (nB_ BK155.out hb); have n1 := aM_ (sT_ HB.out hb); clear BK155; clear HB; have BK155 := n0; have HB := n1; clear n0 n1) | (go_at_call 56; (with_reducible refine (impl_isCell.calls a2 true _ A10.out).mono ?_); rintro e w' ⟨rfl, ⟨nd, rfl⟩⟩) | ((with_reducible refine gate_callee (f := 60) rfl ?_); refine gL_ (some 32) Try.func60 #[.pointer (some ⟨gb155, 0, none⟩), .slice A1 l1.length c1, .int .i64 a2, .int .i64 a3, .bool a4] ?_; (with_reducible refine (impl_Memory_load.calls k gb155 l0_0 _ _ l1 a2 a3 a4 t159 t160 w _ ?sideS ?sideB ?side3 ?side4 ?sideF A12.out).mono ?_); (case sideS => exact ⟨A0_0, c0_0, (by (with_reducible repeat (first | refine bN_ ?_ _ | refine bD_ ?_ | refine bA_ ?_ _)); exact BK155.out), GE155.out, HR0_0.out⟩); (case sideB => exact (gB_ HB.out)); (case sideF => exact Kd.far_C 0 HR1.out GE155.out); (case side3 => exact cS_ (Kd.C_below HR1.out (gB_ HB.out))); (case side4 => exact HC1.out); rintro e w18 ⟨v161, rfl, ho0, hi_, hb, hk_⟩; refine ⟨_, rfl, ?_⟩; have n0 := aM_ (Kd.R_lower ho0 (below_size (gB_ HB.out))); have n2 := aM_ hb; clear BK155; clear HB; have HO162 := n0; have HB := n2; clear n0 n2; (try clear hi_ hk_); (try clear ho0)))
    go_ret2
    exact ⟨_, fR_, by (with_reducible repeat (first | apply rA_ | apply rN_ | apply rD_)); exact HO162.out, gB_ HB.out⟩
   ·replace c11 := Bool.eq_false_iff.mpr c11
    subst c11
    have H1 : ((impl_copyInts.f l1).bind fun t163 => (some (0, t163))) = some (r1, r2) := by rw [if_neg (show ¬ (false = true) by decide)] at H; exact H
    clear H
    have H := H1
    clear H1
    replace H := Option.bind_eq_some_iff.mp H
    obtain ⟨t163, A190, H⟩ := H
    replace H : (some (0, t163)) = some (r1, r2) := H
    have A19 := aM_ A190
    clear A190
    simp only [Option.some.injEq, Prod.mk.injEq] at H
    obtain ⟨rfl, rfl⟩ := H
    go_enter Try.func21, Try.ntmps21
    go_wp2_with (first | ((with_reducible refine gate_dst (N := 5) rfl ?_); refine bX_ 5 (cs := #[.slice A0_0 l0_0.length c0_0]) (t := 24) ?_; intro gb155 hg w20 hbox hb; have n0 := aM_ (sT_ HB.out hb); have n1 := aM_ (hbox); have n2 := aM_ (sZ_ hg HB.out); have n3 := aM_ (sZ_ hg HB.out); clear HB; have HB := n0; have BK155 := n1; have GW155 := n2; have GE155 := n3; clear n0 n1 n2 n3; clear hb hbox hg; have hcz21_0 : w20.cell? ⟨gb155, 0, none⟩ = some (.slice A0_0 l0_0.length c0_0) := (blk_cell BK155.out 0).trans rfl; have hfz21_0 := blk_frozen BK155.out 0) | ((with_reducible refine gate_callee (f := 26) rfl ?_); refine gL_ (some 13) Try.func26 #[.agg #[.slice A0_0 l0_0.length c0_0]] ?_; (with_reducible refine (impl_MemoryOk.calls k _ _ l0_0 true _ ?side1 ?side2 A6.out).mono ?_); (case side1 => exact cS_ (Kd.C_below HR0_0.out HB.out)); (case side2 => exact HC0_0.out); rintro e w22 ⟨rfl, hb⟩; refine ⟨_, rfl, ?_⟩; have n0 := aM_ (nB_ BK155.out hb); have n1 := aM_ (sT_ HB.out hb); clear BK155; clear HB; have BK155 := n0; have HB := n1; clear n0 n1; have hcz23_0 : w22.cell? ⟨gb155, 0, none⟩ = some (.slice A0_0 l0_0.length c0_0) := (blk_cell BK155.out 0).trans rfl; have hfz23_0 := blk_frozen BK155.out 0) | (go_at_call 28; (with_reducible refine (impl_ViewOk.calls k _ _ l0_0 _ _ l1 true _ ?side1 ?side2 ?side3 ?side4 A8.out).mono ?_); (case side1 => exact cS_ (Kd.C_below HR0_0.out HB.out)); (case side2 => exact HC0_0.out); (case side3 => exact cS_ (Kd.C_below HR1.out HB.out)); (case side4 => exact HC1.out); rintro e w24 ⟨rfl, hb⟩; have n0 := aM_ (nB_ BK155.out hb); have n1 := aM_ (sT_ HB.out hb); clear BK155; clear HB; have BK155 := n0; have HB := n1; clear n0 n1) | (go_at_call 56; (with_reducible refine (impl_isCell.calls a2 false _ A10.out).mono ?_); rintro e w' ⟨rfl, ⟨nd, rfl⟩⟩) | ((with_reducible refine gate_callee (f := 58) rfl ?_); refine gL_ (some 27) Try.func58 #[.slice A1 l1.length c1] ?_; (with_reducible refine (impl_copyInts.calls _ _ l1 t163 _ ?side1 ?side2 A19.out).mono ?_); (case side1 => exact cS_ (Kd.C_below HR1.out (gB_ HB.out))); (case side2 => exact HC1.out); rintro e w25 ⟨v164, rfl, ho0, hb⟩; refine ⟨_, rfl, ?_⟩; have n0 := aM_ (Kd.R_lower ho0 (below_size (gB_ HB.out))); have n1 := aM_ (nB_ BK155.out hb); have n2 := aM_ (sT_ HB.out hb); clear BK155; clear HB; have HO165 := n0; have BK155 := n1; have HB := n2; clear n0 n1 n2; (try clear ho0)))
    go_ret2
    exact ⟨_, fR_, by (with_reducible repeat (first | apply rA_ | apply rN_ | apply rD_)); exact HO165.out, gB_ HB.out⟩
  ·replace c9 := Bool.eq_false_iff.mpr c9
   subst c9
   have H1 : ((impl_copyInts.f l1).bind fun t166 => (some (0, t166))) = some (r1, r2) := by rw [if_neg (show ¬ (false = true) by decide)] at H; exact H
   clear H
   have H := H1
   clear H1
   replace H := Option.bind_eq_some_iff.mp H
   obtain ⟨t166, A260, H⟩ := H
   replace H : (some (0, t166)) = some (r1, r2) := H
   have A26 := aM_ A260
   clear A260
   simp only [Option.some.injEq, Prod.mk.injEq] at H
   obtain ⟨rfl, rfl⟩ := H
   go_enter Try.func21, Try.ntmps21
   go_wp2_with (first | ((with_reducible refine gate_dst (N := 5) rfl ?_); refine bX_ 5 (cs := #[.slice A0_0 l0_0.length c0_0]) (t := 24) ?_; intro gb155 hg w27 hbox hb; have n0 := aM_ (sT_ HB.out hb); have n1 := aM_ (hbox); have n2 := aM_ (sZ_ hg HB.out); have n3 := aM_ (sZ_ hg HB.out); clear HB; have HB := n0; have BK155 := n1; have GW155 := n2; have GE155 := n3; clear n0 n1 n2 n3; clear hb hbox hg; have hcz28_0 : w27.cell? ⟨gb155, 0, none⟩ = some (.slice A0_0 l0_0.length c0_0) := (blk_cell BK155.out 0).trans rfl; have hfz28_0 := blk_frozen BK155.out 0) | ((with_reducible refine gate_callee (f := 26) rfl ?_); refine gL_ (some 13) Try.func26 #[.agg #[.slice A0_0 l0_0.length c0_0]] ?_; (with_reducible refine (impl_MemoryOk.calls k _ _ l0_0 true _ ?side1 ?side2 A6.out).mono ?_); (case side1 => exact cS_ (Kd.C_below HR0_0.out HB.out)); (case side2 => exact HC0_0.out); rintro e w29 ⟨rfl, hb⟩; refine ⟨_, rfl, ?_⟩; have n0 := aM_ (nB_ BK155.out hb); have n1 := aM_ (sT_ HB.out hb); clear BK155; clear HB; have BK155 := n0; have HB := n1; clear n0 n1; have hcz30_0 : w29.cell? ⟨gb155, 0, none⟩ = some (.slice A0_0 l0_0.length c0_0) := (blk_cell BK155.out 0).trans rfl; have hfz30_0 := blk_frozen BK155.out 0) | (go_at_call 28; (with_reducible refine (impl_ViewOk.calls k _ _ l0_0 _ _ l1 false _ ?side1 ?side2 ?side3 ?side4 A8.out).mono ?_); (case side1 => exact cS_ (Kd.C_below HR0_0.out HB.out)); (case side2 => exact HC0_0.out); (case side3 => exact cS_ (Kd.C_below HR1.out HB.out)); (case side4 => exact HC1.out); rintro e w31 ⟨rfl, hb⟩; have n0 := aM_ (nB_ BK155.out hb); have n1 := aM_ (sT_ HB.out hb); clear BK155; clear HB; have BK155 := n0; have HB := n1; clear n0 n1) | ((with_reducible refine gate_callee (f := 58) rfl ?_); refine gL_ (some 27) Try.func58 #[.slice A1 l1.length c1] ?_; (with_reducible refine (impl_copyInts.calls _ _ l1 t166 _ ?side1 ?side2 A26.out).mono ?_); (case side1 => exact cS_ (Kd.C_below HR1.out HB.out)); (case side2 => exact HC1.out); rintro e w32 ⟨v167, rfl, ho0, hb⟩; refine ⟨_, rfl, ?_⟩; have n0 := aM_ (Kd.R_lower ho0 (below_size (gB_ HB.out))); have n1 := aM_ (nB_ BK155.out hb); have n2 := aM_ (sT_ HB.out hb); clear BK155; clear HB; have HO168 := n0; have BK155 := n1; have HB := n2; clear n0 n1 n2; (try clear ho0)))
   go_ret2
   exact ⟨_, fR_, by (with_reducible repeat (first | apply rA_ | apply rN_ | apply rD_)); exact HO168.out, gB_ HB.out⟩
 ·replace c7 := Bool.eq_false_iff.mpr c7
  subst c7
  have H1 : ((impl_copyInts.f l1).bind fun t169 => (some (0, t169))) = some (r1, r2) := by rw [if_neg (show ¬ (false = true) by decide)] at H; exact H
  clear H
  have H := H1
  clear H1
  replace H := Option.bind_eq_some_iff.mp H
  obtain ⟨t169, A330, H⟩ := H
  replace H : (some (0, t169)) = some (r1, r2) := H
  have A33 := aM_ A330
  clear A330
  simp only [Option.some.injEq, Prod.mk.injEq] at H
  obtain ⟨rfl, rfl⟩ := H
  go_enter Try.func21, Try.ntmps21
  go_wp2_with (first | ((with_reducible refine gate_dst (N := 5) rfl ?_); refine bX_ 5 (cs := #[.slice A0_0 l0_0.length c0_0]) (t := 24) ?_; intro gb155 hg w34 hbox hb; have n0 := aM_ (sT_ HB.out hb); have n1 := aM_ (hbox); have n2 := aM_ (sZ_ hg HB.out); have n3 := aM_ (sZ_ hg HB.out); clear HB; have HB := n0; have BK155 := n1; have GW155 := n2; have GE155 := n3; clear n0 n1 n2 n3; clear hb hbox hg; have hcz35_0 : w34.cell? ⟨gb155, 0, none⟩ = some (.slice A0_0 l0_0.length c0_0) := (blk_cell BK155.out 0).trans rfl; have hfz35_0 := blk_frozen BK155.out 0) | ((with_reducible refine gate_callee (f := 26) rfl ?_); refine gL_ (some 13) Try.func26 #[.agg #[.slice A0_0 l0_0.length c0_0]] ?_; (with_reducible refine (impl_MemoryOk.calls k _ _ l0_0 false _ ?side1 ?side2 A6.out).mono ?_); (case side1 => exact cS_ (Kd.C_below HR0_0.out HB.out)); (case side2 => exact HC0_0.out); rintro e w36 ⟨rfl, hb⟩; refine ⟨_, rfl, ?_⟩; have n0 := aM_ (nB_ BK155.out hb); have n1 := aM_ (sT_ HB.out hb); clear BK155; clear HB; have BK155 := n0; have HB := n1; clear n0 n1) | ((with_reducible refine gate_callee (f := 58) rfl ?_); refine gL_ (some 27) Try.func58 #[.slice A1 l1.length c1] ?_; (with_reducible refine (impl_copyInts.calls _ _ l1 t169 _ ?side1 ?side2 A33.out).mono ?_); (case side1 => exact cS_ (Kd.C_below HR1.out HB.out)); (case side2 => exact HC1.out); rintro e w37 ⟨v170, rfl, ho0, hb⟩; refine ⟨_, rfl, ?_⟩; have n0 := aM_ (Kd.R_lower ho0 (below_size (gB_ HB.out))); have n1 := aM_ (nB_ BK155.out hb); have n2 := aM_ (sT_ HB.out hb); clear BK155; clear HB; have HO171 := n0; have BK155 := n1; have HB := n2; clear n0 n1 n2; (try clear ho0)))
  go_ret2
  exact ⟨_, fR_, by (with_reducible repeat (first | apply rA_ | apply rN_ | apply rD_)); exact HO171.out, gB_ HB.out⟩
def spec_l1In.f (a0 : Int) (a1 : Int) (a2 : Int) : Option (Bool) := if a0 ≥ a1 then (some (decide (a0 ≤ a2))) else (some false)
set_option maxHeartbeats 8000000 in
set_option maxRecDepth 100000 in
theorem spec_l1In.calls (a0 : Int) (a1 : Int) (a2 : Int) (r : Bool) (w : World) (h : spec_l1In.f a0 a1 a2 = some r) :
  Calls Try.prog 69 #[.int .i64 a0, .int .i64 a1, .int .i64 a2] w fun e w' => e = .returned (.bool r) ∧ Drawn0 w w' := by
 have H : (if a0 ≥ a1 then (some (decide (a0 ≤ a2))) else (some false)) = some r := h
 clear h
 by_cases c4 : a0 ≥ a1
 ·rw [if_pos c4] at H
  have c4b0 : decide (a1 ≤ a0) = true := decide_eq_true c4
  clear c4
  obtain rfl := Option.some.inj H
  go_enter Try.func69, Try.ntmps69
  go_wp2
  go_ret
  exact ⟨by first | rfl | (simp; done) | (simp [*]; done), by repeat (first | exact Drawn0.refl _ | apply Drawn0.step)⟩
 ·rw [if_neg c4] at H
  have c4b0 : decide (a1 ≤ a0) = false := decide_eq_false c4
  clear c4
  obtain rfl := Option.some.inj H
  go_enter Try.func69, Try.ntmps69
  go_wp2
  go_ret
  exact ⟨by first | rfl | (simp; done) | (simp [*]; done), by repeat (first | exact Drawn0.refl _ | apply Drawn0.step)⟩
def spec_ViewOk.l0 : Nat → List Int → Int → List (List (S43)) → Option (Bool)
  | 0, _, _, _ => none
  | k + 1, x1, x5, x173000 => if x5 < (x1.length : Int) then (if 0 ≤ x5 then (if x5 < (x173000.length : Int) then ((spec_l1In.f (rd x1 x5) 0 (wrap64 (((rd_L3 x173000 x5).length : Int) - 1))).bind fun t175 => (if t175 = true then (spec_ViewOk.l0 k x1 (wrap64 (x5 + 1)) x173000) else (some false))) else (none)) else (none)) else (some true)
def spec_ViewOk.f (k : Nat) (l0_0 : List (List (S43))) (l1 : List Int) : Option (Bool) := if (l1.length : Int) = (l0_0.length : Int) then (spec_ViewOk.l0 k l1 0 l0_0) else (some false)
set_option maxHeartbeats 8000000 in
set_option maxRecDepth 100000 in
theorem spec_ViewOk.calls (k : Nat) (A0_0 : Option Addr) (c0_0 : Nat) (l0_0 : List (List (S43))) (A1 : Option Addr) (c1 : Nat) (l1 : List Int) (r : Bool) (w : World) (hr0_0 : Kd.C (Kd.slice 43 k43) w A0_0 l0_0.length l0_0) (hc0_0 : l0_0.length ≤ c0_0) (hr1 : Kd.C (Kd.int .i64) w A1 l1.length l1) (hc1 : l1.length ≤ c1) (h : spec_ViewOk.f k l0_0 l1 = some r) :
  Calls Try.prog 29 #[.agg #[.slice A0_0 l0_0.length c0_0], .slice A1 l1.length c1] w fun e w' => e = .returned (.bool r) ∧ Below w.heap.size w w' := by
 have hu24 := Try.underlying24
 have HR0_0 := aM_ hr0_0
 have HC0_0 := aM_ hc0_0
 clear hr0_0 hc0_0
 have HR1 := aM_ hr1
 have HC1 := aM_ hc1
 clear hr1 hc1
 have HB := aM_ (Below.refl w.heap.size w)
 have H : (if (l1.length : Int) = (l0_0.length : Int) then (spec_ViewOk.l0 k l1 0 l0_0) else (some false)) = some r := h
 clear h
 by_cases c3 : (l1.length : Int) = (l0_0.length : Int)
 ·rw [if_pos c3] at H
  have c3b0 : ((l1.length : Int) == (l0_0.length : Int)) = true := beq_iff_eq.mpr c3
  have c3b1 : ((l1.length : Int) != (l0_0.length : Int)) = false := bne_eq_false_iff_eq.mpr c3
  have c3b2 : (l1.length == l0_0.length) = true := by first | simpa using c3 | (simp at c3 ⊢; omega)
  clear c3
  have H' := aM_ H
  clear H
  go_enter Try.func29, Try.ntmps29
  go_wp2_with (first | ((with_reducible refine gate_dst (N := 2) rfl ?_); refine bX_ 2 (cs := #[.slice A0_0 l0_0.length c0_0]) (t := 24) ?_; intro gb172 hg w4 hbox hb; have n0 := aM_ (sT_ HB.out hb); have n1 := aM_ (hbox); have n2 := aM_ (sZ_ hg HB.out); have n3 := aM_ (sZ_ hg HB.out); clear HB; have HB := n0; have BK172 := n1; have GW172 := n2; have GE172 := n3; clear n0 n1 n2 n3; clear hb hbox hg; have hcz5_0 : w4.cell? ⟨gb172, 0, none⟩ = some (.slice A0_0 l0_0.length c0_0) := (blk_cell BK172.out 0).trans rfl; have hfz5_0 := blk_frozen BK172.out 0))
  repeat (go_quiet (first | ((with_reducible refine gate_dst (N := 2) rfl ?_); refine bX_ 2 (cs := #[.slice A0_0 l0_0.length c0_0]) (t := 24) ?_; intro gb172 hg w4 hbox hb; have n0 := aM_ (sT_ HB.out hb); have n1 := aM_ (hbox); have n2 := aM_ (sZ_ hg HB.out); have n3 := aM_ (sZ_ hg HB.out); clear HB; have HB := n0; have BK172 := n1; have GW172 := n2; have GE172 := n3; clear n0 n1 n2 n3; clear hb hbox hg; have hcz5_0 : w4.cell? ⟨gb172, 0, none⟩ = some (.slice A0_0 l0_0.length c0_0) := (blk_cell BK172.out 0).trans rfl; have hfz5_0 := blk_frozen BK172.out 0)); try go_wp2_with (first | ((with_reducible refine gate_dst (N := 2) rfl ?_); refine bX_ 2 (cs := #[.slice A0_0 l0_0.length c0_0]) (t := 24) ?_; intro gb172 hg w4 hbox hb; have n0 := aM_ (sT_ HB.out hb); have n1 := aM_ (hbox); have n2 := aM_ (sZ_ hg HB.out); have n3 := aM_ (sZ_ hg HB.out); clear HB; have HB := n0; have BK172 := n1; have GW172 := n2; have GE172 := n3; clear n0 n1 n2 n3; clear hb hbox hg; have hcz5_0 : w4.cell? ⟨gb172, 0, none⟩ = some (.slice A0_0 l0_0.length c0_0) := (blk_cell BK172.out 0).trans rfl; have hfz5_0 := blk_frozen BK172.out 0)))
  go_loopg [5] k (fun kq v5 w' => ∃ (x5_1 : Int), v5 = .int .i64 x5_1 ∧ Aside0 (spec_ViewOk.l0 kq l1 x5_1 l0_0 = some r) ∧ Aside0 (kq ≤ k) ∧ Aside0 (w'.heap[gb172]? = some (.cells #[(.slice A0_0 l0_0.length c0_0)] 24 (0, 0))) ∧ Aside0 (Below w.heap.size w w'))
  case atStart => exact ⟨(0), (by first | rfl | (simp; done) | (simp [*]; done)), H', ⟨Nat.le_refl _⟩, ⟨rW_ BK172.out⟩, ⟨gW_ HB.out⟩⟩
  case round =>
   clear H'
   try clear c1
   try clear c2
   try clear p2
   try clear c3
   try clear c3b0
   try clear c3b1
   try clear c3b2
   try clear hcz5_0 hfz5_0
   obtain ⟨x5_1, rfl, HA, HK1, BK172, HB⟩ := hrel
   cases gk with
   | zero => exact absurd HA.out (by simp [spec_ViewOk.l0])
   | succ k1 =>
    have H := HA.out
    clear HA
    simp only [spec_ViewOk.l0] at H
    by_cases c6 : x5_1 < (l1.length : Int)
    ·rw [if_pos c6] at H
     have c6b0 : decide (x5_1 < (l1.length : Int)) = true := decide_eq_true c6
     clear c6
     by_cases c7 : 0 ≤ x5_1
     ·rw [if_pos c7] at H
      have c7b0 : decide (0 ≤ x5_1) = true := decide_eq_true c7
      clear c7
      by_cases c8 : x5_1 < (l0_0.length : Int)
      ·rw [if_pos c8] at H
       have c8b0 : decide (x5_1 < (l0_0.length : Int)) = true := decide_eq_true c8
       clear c8
       replace H := Option.bind_eq_some_iff.mp H
       obtain ⟨t175, A90, H⟩ := H
       replace H : (if t175 = true then (spec_ViewOk.l0 k1 l1 (wrap64 (x5_1 + 1)) l0_0) else (some false)) = some r := H
       have A9 := aM_ A90
       clear A90
       by_cases c10 : t175 = true
       ·subst c10
        have H1 : (spec_ViewOk.l0 k1 l1 (wrap64 (x5_1 + 1)) l0_0) = some r := by rw [if_pos rfl] at H; exact H
        clear H
        have H := H1
        clear H1
        have H' := aM_ H
        clear H
        have p173 : 0 ≤ (x5_1 : Int) := of_decide_eq_true (by first | (with_reducible assumption) | assumption)
        have q173 : x5_1 < (l1.length : Int) := of_decide_eq_true (by first | (with_reducible assumption) | assumption)
        obtain ⟨ad173, e173, hx173_0⟩ := Kd.at_int HR1.out x5_1 p173 q173
        cases e173
        replace hx173_0 := cB_ HB.out hx173_0
        replace p173 := eq_true p173
        replace q173 := eq_true q173
        have hcz11_0 : wr.cell? ⟨gb172, 0, none⟩ = some (.slice A0_0 l0_0.length c0_0) := (blk_cell BK172.out 0).trans rfl
        have hfz11_0 := blk_frozen BK172.out 0
        have p174 : 0 ≤ (x5_1 : Int) := of_decide_eq_true (by first | (with_reducible assumption) | assumption)
        have q174 : x5_1 < (l0_0.length : Int) := of_decide_eq_true (by first | (with_reducible assumption) | assumption)
        obtain ⟨ad174, A174_0, c174_0, e174, hx174_0, hl174_0, hi174_0⟩ := at_L3 HR0_0.out x5_1 p174 q174
        cases e174
        replace hx174_0 := cB_ HB.out hx174_0
        have HR174_0 := aM_ hi174_0
        have HC174_0 := aM_ hl174_0
        clear hi174_0 hl174_0
        replace p174 := eq_true p174
        replace q174 := eq_true q174
        go_wp2_with (first | (go_at_call 69; (with_reducible refine (spec_l1In.calls (rd l1 x5_1) 0 (wrap64 (((rd_L3 l0_0 x5_1).length : Int) - 1)) true _ A9.out).mono ?_); rintro e w' ⟨rfl, ⟨nd, rfl⟩⟩; (try first | exact ⟨rfl, _, World.drewN_drewN _ _ _⟩ | exact ⟨rfl, _, Eq.trans (World.drewN_drewN _ _ _) (congrArg (World.drewN _) (Nat.add_assoc _ _ _))⟩)))
        repeat (go_quiet (first | (go_at_call 69; (with_reducible refine (spec_l1In.calls (rd l1 x5_1) 0 (wrap64 (((rd_L3 l0_0 x5_1).length : Int) - 1)) true _ A9.out).mono ?_); rintro e w' ⟨rfl, ⟨nd, rfl⟩⟩; (try first | exact ⟨rfl, _, World.drewN_drewN _ _ _⟩ | exact ⟨rfl, _, Eq.trans (World.drewN_drewN _ _ _) (congrArg (World.drewN _) (Nat.add_assoc _ _ _))⟩))); try go_wp2_with (first | (go_at_call 69; (with_reducible refine (spec_l1In.calls (rd l1 x5_1) 0 (wrap64 (((rd_L3 l0_0 x5_1).length : Int) - 1)) true _ A9.out).mono ?_); rintro e w' ⟨rfl, ⟨nd, rfl⟩⟩; (try first | exact ⟨rfl, _, World.drewN_drewN _ _ _⟩ | exact ⟨rfl, _, Eq.trans (World.drewN_drewN _ _ _) (congrArg (World.drewN _) (Nat.add_assoc _ _ _))⟩))))
        go_roundg k1
        case measure => have := HK1.out; omega
        case rel => exact ⟨(wrap64 (x5_1 + 1)), (by first | rfl | (simp; done) | (simp [*]; done)), H', ⟨by have := HK1.out; omega⟩, ⟨rW_ BK172.out⟩, ⟨gW_ HB.out⟩⟩
       ·replace c10 := Bool.eq_false_iff.mpr c10
        subst c10
        have H1 : (some false) = some r := by rw [if_neg (show ¬ (false = true) by decide)] at H; exact H
        clear H
        have H := H1
        clear H1
        obtain rfl := Option.some.inj H
        have p173 : 0 ≤ (x5_1 : Int) := of_decide_eq_true (by first | (with_reducible assumption) | assumption)
        have q173 : x5_1 < (l1.length : Int) := of_decide_eq_true (by first | (with_reducible assumption) | assumption)
        obtain ⟨ad173, e173, hx173_0⟩ := Kd.at_int HR1.out x5_1 p173 q173
        cases e173
        replace hx173_0 := cB_ HB.out hx173_0
        replace p173 := eq_true p173
        replace q173 := eq_true q173
        have hcz12_0 : wr.cell? ⟨gb172, 0, none⟩ = some (.slice A0_0 l0_0.length c0_0) := (blk_cell BK172.out 0).trans rfl
        have hfz12_0 := blk_frozen BK172.out 0
        have p174 : 0 ≤ (x5_1 : Int) := of_decide_eq_true (by first | (with_reducible assumption) | assumption)
        have q174 : x5_1 < (l0_0.length : Int) := of_decide_eq_true (by first | (with_reducible assumption) | assumption)
        obtain ⟨ad174, A174_0, c174_0, e174, hx174_0, hl174_0, hi174_0⟩ := at_L3 HR0_0.out x5_1 p174 q174
        cases e174
        replace hx174_0 := cB_ HB.out hx174_0
        have HR174_0 := aM_ hi174_0
        have HC174_0 := aM_ hl174_0
        clear hi174_0 hl174_0
        replace p174 := eq_true p174
        replace q174 := eq_true q174
        go_wp2_with (first | (go_at_call 69; (with_reducible refine (spec_l1In.calls (rd l1 x5_1) 0 (wrap64 (((rd_L3 l0_0 x5_1).length : Int) - 1)) false _ A9.out).mono ?_); rintro e w' ⟨rfl, ⟨nd, rfl⟩⟩; (try first | exact ⟨rfl, _, World.drewN_drewN _ _ _⟩ | exact ⟨rfl, _, Eq.trans (World.drewN_drewN _ _ _) (congrArg (World.drewN _) (Nat.add_assoc _ _ _))⟩)))
        repeat (go_quiet (first | (go_at_call 69; (with_reducible refine (spec_l1In.calls (rd l1 x5_1) 0 (wrap64 (((rd_L3 l0_0 x5_1).length : Int) - 1)) false _ A9.out).mono ?_); rintro e w' ⟨rfl, ⟨nd, rfl⟩⟩; (try first | exact ⟨rfl, _, World.drewN_drewN _ _ _⟩ | exact ⟨rfl, _, Eq.trans (World.drewN_drewN _ _ _) (congrArg (World.drewN _) (Nat.add_assoc _ _ _))⟩))); try go_wp2_with (first | (go_at_call 69; (with_reducible refine (spec_l1In.calls (rd l1 x5_1) 0 (wrap64 (((rd_L3 l0_0 x5_1).length : Int) - 1)) false _ A9.out).mono ?_); rintro e w' ⟨rfl, ⟨nd, rfl⟩⟩; (try first | exact ⟨rfl, _, World.drewN_drewN _ _ _⟩ | exact ⟨rfl, _, Eq.trans (World.drewN_drewN _ _ _) (congrArg (World.drewN _) (Nat.add_assoc _ _ _))⟩))))
        go_ret
        exact fI_ HB.out
      ·rw [if_neg c8] at H
       exact absurd H (by simp)
     ·rw [if_neg c7] at H
      exact absurd H (by simp)
    ·rw [if_neg c6] at H
     have c6b0 : decide (x5_1 < (l1.length : Int)) = false := decide_eq_false c6
     clear c6
     obtain rfl := Option.some.inj H
     go_wp2
     repeat (go_quiet (fail); try go_wp2)
     go_ret
     exact fI_ HB.out
 ·rw [if_neg c3] at H
  have c3b0 : ((l1.length : Int) == (l0_0.length : Int)) = false := beq_eq_false_iff_ne.mpr c3
  have c3b1 : ((l1.length : Int) != (l0_0.length : Int)) = true := bne_iff_ne.mpr c3
  have c3b2 : (l1.length == l0_0.length) = false := by first | simpa using c3 | (simp at c3 ⊢; omega)
  obtain rfl := Option.some.inj H
  go_enter Try.func29, Try.ntmps29
  go_wp2_with (first | ((with_reducible refine gate_dst (N := 2) rfl ?_); refine bX_ 2 (cs := #[.slice A0_0 l0_0.length c0_0]) (t := 24) ?_; intro gb172 hg w13 hbox hb; have n0 := aM_ (sT_ HB.out hb); have n1 := aM_ (hbox); have n2 := aM_ (sZ_ hg HB.out); have n3 := aM_ (sZ_ hg HB.out); clear HB; have HB := n0; have BK172 := n1; have GW172 := n2; have GE172 := n3; clear n0 n1 n2 n3; clear hb hbox hg; have hcz14_0 : w13.cell? ⟨gb172, 0, none⟩ = some (.slice A0_0 l0_0.length c0_0) := (blk_cell BK172.out 0).trans rfl; have hfz14_0 := blk_frozen BK172.out 0))
  repeat (go_quiet (first | ((with_reducible refine gate_dst (N := 2) rfl ?_); refine bX_ 2 (cs := #[.slice A0_0 l0_0.length c0_0]) (t := 24) ?_; intro gb172 hg w13 hbox hb; have n0 := aM_ (sT_ HB.out hb); have n1 := aM_ (hbox); have n2 := aM_ (sZ_ hg HB.out); have n3 := aM_ (sZ_ hg HB.out); clear HB; have HB := n0; have BK172 := n1; have GW172 := n2; have GE172 := n3; clear n0 n1 n2 n3; clear hb hbox hg; have hcz14_0 : w13.cell? ⟨gb172, 0, none⟩ = some (.slice A0_0 l0_0.length c0_0) := (blk_cell BK172.out 0).trans rfl; have hfz14_0 := blk_frozen BK172.out 0)); try go_wp2_with (first | ((with_reducible refine gate_dst (N := 2) rfl ?_); refine bX_ 2 (cs := #[.slice A0_0 l0_0.length c0_0]) (t := 24) ?_; intro gb172 hg w13 hbox hb; have n0 := aM_ (sT_ HB.out hb); have n1 := aM_ (hbox); have n2 := aM_ (sZ_ hg HB.out); have n3 := aM_ (sZ_ hg HB.out); clear HB; have HB := n0; have BK172 := n1; have GW172 := n2; have GE172 := n3; clear n0 n1 n2 n3; clear hb hbox hg; have hcz14_0 : w13.cell? ⟨gb172, 0, none⟩ = some (.slice A0_0 l0_0.length c0_0) := (blk_cell BK172.out 0).trans rfl; have hfz14_0 := blk_frozen BK172.out 0)))
  go_ret
  exact fI_ HB.out
end Go.Proofs.Ythbcnakmnbilhaa.PFnExactLoad
