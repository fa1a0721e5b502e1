/- A part of the proof that the law FnExactStuck holds for every input. -/
import Derived.Test.YtobachfngmpeiaaZFnExactStucka22
import Derived.Test.YtobachfngmpeiaaZFnExactStucks
namespace Go.Proofs.Ytobachfngmpeiaa.PFnExactStuck
open Go.RowKit Go.Proofs.YtobachfngmpeiaaW.PrintWords Go.Proofs.YtobachfngmpeiaaW.PrintLast Go.Proofs.YtobachfngmpeiaaW.PrintMore
attribute [local go_sem] max2_int min2_int max_two min_two max_three min_three max_four min_four   -- for this text's walks alone
set_option linter.unusedVariables false
set_option linter.unusedSimpArgs false
mutual
def impl_SourceOk.j0 : Nat → Bool → List Int → List (List (S192)) → List (S107) → List (S94) → List (S35) → Option (Bool)
  | 0,_,_,_,_,_,_ => none
  | k + 1,x38,x419000,x419001,x420000,x420001,x420002 => if x38 = true then (some false) else (impl_SourceOk.l0 k x420000 (x420000.length : Int) 0 x419000 x419001 x420000 x420001 x420002)
def impl_SourceOk.l0 : Nat → List (S107) → Int → Int → List Int → List (List (S192)) → List (S107) → List (S94) → List (S35) → Option (Bool)
  | 0,_,_,_,_,_,_,_,_ => none
  | k + 1,x40,x41,x42,x419000,x419001,x420000,x420001,x420002 => if x42 < x41 then (if 0 ≤ x42 then (if x42 < (x40.length : Int) then (if (((rd_T107 x40 x42).f1).length : Int) = 4 then ((impl_within.f ((rd_T107 x40 x42).f2) 0 2).bind fun t424 => (if t424 = true then (if x42 < (x419001.length : Int) then ((impl_within.f ((rd_T107 x40 x42).f0) 0 (wrap64 (((rd_L4 x419001 x42).length : Int) - 1))).bind fun t426 => (impl_SourceOk.j2 k x40 x41 x42 (!t426) x419000 x419001 x420000 x420001 x420002)) else (none)) else (impl_SourceOk.j2 k x40 x41 x42 true x419000 x419001 x420000 x420001 x420002))) else (impl_SourceOk.j2 k x40 x41 x42 true x419000 x419001 x420000 x420001 x420002)) else (none)) else (none)) else (impl_SourceOk.l1 k x420001 (x420001.length : Int) 0 x419000 x419001)
def impl_SourceOk.j2 : Nat → List (S107) → Int → Int → Bool → List Int → List (List (S192)) → List (S107) → List (S94) → List (S35) → Option (Bool)
  | 0,_,_,_,_,_,_,_,_,_ => none
  | k + 1,x40,x41,x42,x69,x419000,x419001,x420000,x420001,x420002 => if x69 = true then (some false) else (impl_SourceOk.l0 k x40 x41 (wrap64 (x42 + 1)) x419000 x419001 x420000 x420001 x420002)
def impl_SourceOk.l1 : Nat → List (S94) → Int → Int → List Int → List (List (S192)) → Option (Bool)
  | 0,_,_,_,_,_ => none
  | k + 1,x72,x73,x74,x419000,x419001 => if x74 < x73 then (if 0 ≤ x74 then (if x74 < (x72.length : Int) then ((impl_ChanOk.f ((rd_T94 x72 x74).f0) ((rd_T94 x72 x74).f1) ((rd_T94 x72 x74).f2)).bind fun t429 => (if t429 = true then (if x74 < (x419000.length : Int) then (if ((rd_T94 x72 x74).f0) = (rd x419000 x74) then (impl_SourceOk.l1 k x72 x73 (wrap64 (x74 + 1)) x419000 x419001) else (some false)) else (none)) else (some false))) else (none)) else (none)) else (some true)
end
def impl_SourceOk.f (k : Nat) (l0_0 : List Int) (l0_1 : List (List (S192))) (l1_0 : List (S107)) (l1_1 : List (S94)) (l1_2 : List (S35)) : Option (Bool) := (impl_ProgOk.f k l0_0 l0_1).bind fun t420 => (if t420 = true then (if (l1_0.length : Int) = (l0_1.length : Int) then (if (l1_1.length : Int) = (l0_0.length : Int) then ((impl_notesOk.f k l1_2 (l1_0.length : Int)).bind fun t421 => (impl_SourceOk.j0 k (!t421) l0_0 l0_1 l1_0 l1_1 l1_2)) else (impl_SourceOk.j0 k true l0_0 l0_1 l1_0 l1_1 l1_2)) else (impl_SourceOk.j0 k true l0_0 l0_1 l1_0 l1_1 l1_2)) else (impl_SourceOk.j0 k true l0_0 l0_1 l1_0 l1_1 l1_2))
def impl_SourceOk.T6 : Bool × List (List Nat × List Nat) := (true,[([],[]),([0],[0]),([1],[1]),([2],[2]),([3],[3]),([4],[4]),([5,4],[4,5]),([6,4,4],[4,6]),([7,4],[4,7]),([4,8],[4,8]),([9,7],[9]),([10],[10]),([11,10],[10,11]),([10],[10]),([13,10],[10,13]),([10],[10]),([14,15,10],[10,14,15]),([16,10],[10,16]),([17,10],[10,17]),([18,10],[10,18]),([12,19,10,10],[10,12,19]),([20,10],[10,20]),([10,21],[10,21])])
def impl_SourceOk.B6 : List Nat := [0,1,3,7,15,31,63,127,255,511,1023,2047,4095,2047,10239,2047,59391,124927,255999,518143,1048575,2097151,4194303]
theorem impl_SourceOk.tab6 : rtab .any (opsOf Try.f98 6) = impl_SourceOk.T6 := by kernel_rfl
theorem impl_SourceOk.bits6 : waitsOk impl_SourceOk.T6.2 impl_SourceOk.B6 = true := by kernel_rfl
def impl_SourceOk.T12 : Bool × List (List Nat × List Nat) := (true,[([],[]),([0],[0]),([1],[1]),([2,1],[2]),([3],[3]),([4,3],[3,4]),([3],[3]),([6,3],[3,6]),([3],[3]),([7,8,3],[3,7,8]),([9,3],[3,9]),([5,10,3],[3,5,10]),([3,11],[3,11])])
def impl_SourceOk.B12 : List Nat := [0,1,3,7,15,31,15,79,15,463,975,2047,4095]
theorem impl_SourceOk.tab12 : rtab .any (opsOf Try.f98 12) = impl_SourceOk.T12 := by kernel_rfl
theorem impl_SourceOk.bits12 : waitsOk impl_SourceOk.T12.2 impl_SourceOk.B12 = true := by kernel_rfl
set_option maxHeartbeats 8000000 in
set_option maxRecDepth 100000 in
theorem impl_SourceOk.calls (k : Nat) (A0_0 : Option Addr) (c0_0 : Nat) (l0_0 : List Int) (A0_1 : Option Addr) (c0_1 : Nat) (l0_1 : List (List (S192))) (A1_0 : Option Addr) (c1_0 : Nat) (l1_0 : List (S107)) (A1_1 : Option Addr) (c1_1 : Nat) (l1_1 : List (S94)) (A1_2 : Option Addr) (c1_2 : Nat) (l1_2 : List (S35)) (r : Bool) (w : World) (hr0_0 : Kd.C (Kd.int .i64) w A0_0 l0_0.length l0_0) (hc0_0 : l0_0.length ≤ c0_0) (hr0_1 : Kd.C (Kd.slice 192 k192) w A0_1 l0_1.length l0_1) (hc0_1 : l0_1.length ≤ c0_1) (hr1_0 : Kd.C k107 w A1_0 l1_0.length l1_0) (hc1_0 : l1_0.length ≤ c1_0) (hr1_1 : Kd.C k94 w A1_1 l1_1.length l1_1) (hc1_1 : l1_1.length ≤ c1_1) (hr1_2 : Kd.C k35 w A1_2 l1_2.length l1_2) (hc1_2 : l1_2.length ≤ c1_2) (h : impl_SourceOk.f k l0_0 l0_1 l1_0 l1_1 l1_2 = some r) :
  Calls Try.prog 98 #[.agg #[.slice A0_0 l0_0.length c0_0,.slice A0_1 l0_1.length c0_1],.agg #[.slice A1_0 l1_0.length c1_0,.slice A1_1 l1_1.length c1_1,.slice A1_2 l1_2.length c1_2]] w fun e w' => e = .returned (.bool r) ∧ Below w.heap.size w w' := by
 have hu44 := Try.underlying44
 have hu28 := Try.underlying28
 have hu107 := Try.underlying107
 have hu94 := Try.underlying94
 have HR0_0 := aM_ hr0_0
 have HC0_0 := aM_ hc0_0
 clear hr0_0 hc0_0
 have HR0_1 := aM_ hr0_1
 have HC0_1 := aM_ hc0_1
 clear hr0_1 hc0_1
 have HR1_0 := aM_ hr1_0
 have HC1_0 := aM_ hc1_0
 clear hr1_0 hc1_0
 have HR1_1 := aM_ hr1_1
 have HC1_1 := aM_ hc1_1
 clear hr1_1 hc1_1
 have HR1_2 := aM_ hr1_2
 have HC1_2 := aM_ hc1_2
 clear hr1_2 hc1_2
 have HB := aM_ (Below.refl w.heap.size w)
 have H : ((impl_ProgOk.f k l0_0 l0_1).bind fun t420 => (if t420 = true then (if (l1_0.length : Int) = (l0_1.length : Int) then (if (l1_1.length : Int) = (l0_0.length : Int) then ((impl_notesOk.f k l1_2 (l1_0.length : Int)).bind fun t421 => (impl_SourceOk.j0 k (!t421) l0_0 l0_1 l1_0 l1_1 l1_2)) else (impl_SourceOk.j0 k true l0_0 l0_1 l1_0 l1_1 l1_2)) else (impl_SourceOk.j0 k true l0_0 l0_1 l1_0 l1_1 l1_2)) else (impl_SourceOk.j0 k true l0_0 l0_1 l1_0 l1_1 l1_2))) = some r := h
 clear h
 have HC3 := aM_ H
 clear H
 go_enter Try.func98,Try.ntmps98
 go_upto_region 1 with (first | ((with_reducible refine gate_dst (N := 2) rfl ?_);(try (refine gate_guard (by rfl) ?_;dsimp only));refine bX_ 2 (cs := #[.slice A0_0 l0_0.length c0_0,.slice A0_1 l0_1.length c0_1]) (t := 44) ?_;intro gb418 hg w4 hbox hb;have BK418 := aM_ (hbox);have GE418 := aM_ (sZ_ hg HB.out);replace HB := aM_ (sT_ HB.out hb);clear hb hbox hg) | ((with_reducible refine gate_dst (N := 3) rfl ?_);(try (refine gate_guard (by rfl) ?_;dsimp only));refine bX_ 3 (cs := #[.slice A1_0 l1_0.length c1_0,.slice A1_1 l1_1.length c1_1,.slice A1_2 l1_2.length c1_2]) (t := 28) ?_;intro gb419 hg w5 hbox hb;have BK419 := aM_ (hbox);have GE419 := aM_ (sZ_ hg HB.out);have NB418_419 := aM_ (nL_ hg BK418.out);have NB419_418 := aM_ (nG_ hg BK418.out);replace BK418 := aM_ (nB_ BK418.out hb);replace HB := aM_ (sT_ HB.out hb);clear hb hbox hg))
 (try simp only [Act.put,List.setIfInBounds_toArray,List.set_cons_zero,List.set_cons_succ])
 go_cut [38] (fun v38 wc => ∃ (kq : Nat) (x38_2 : Bool),v38 = .bool x38_2 ∧ Aside0 (impl_SourceOk.j0 kq x38_2 l0_0 l0_1 l1_0 l1_1 l1_2 = some r) ∧ Aside0 (kq ≤ k) ∧ Aside0 (wc.heap[gb418]? = some (.cells #[(.slice A0_0 l0_0.length c0_0),(.slice A0_1 l0_1.length c0_1)] 44 (0,0))) ∧ Aside0 (wc.heap[gb419]? = some (.cells #[(.slice A1_0 l1_0.length c1_0),(.slice A1_1 l1_1.length c1_1),(.slice A1_2 l1_2.length c1_2)] 28 (0,0))) ∧ Aside0 (Below w.heap.size w wc))
 case first =>
  have H := HC3.out
  clear HC3
  replace H := Option.bind_eq_some_iff.mp H
  obtain ⟨t420,A60,H⟩ := H
  replace H : (if t420 = true then (if (l1_0.length : Int) = (l0_1.length : Int) then (if (l1_1.length : Int) = (l0_0.length : Int) then ((impl_notesOk.f k l1_2 (l1_0.length : Int)).bind fun t421 => (impl_SourceOk.j0 k (!t421) l0_0 l0_1 l1_0 l1_1 l1_2)) else (impl_SourceOk.j0 k true l0_0 l0_1 l1_0 l1_1 l1_2)) else (impl_SourceOk.j0 k true l0_0 l0_1 l1_0 l1_1 l1_2)) else (impl_SourceOk.j0 k true l0_0 l0_1 l1_0 l1_1 l1_2)) = some r := H
  have A6 := aM_ A60
  clear A60
  by_cases c7 : t420 = true
  ·subst c7
   have H1 : (if (l1_0.length : Int) = (l0_1.length : Int) then (if (l1_1.length : Int) = (l0_0.length : Int) then ((impl_notesOk.f k l1_2 (l1_0.length : Int)).bind fun t421 => (impl_SourceOk.j0 k (!t421) l0_0 l0_1 l1_0 l1_1 l1_2)) else (impl_SourceOk.j0 k true l0_0 l0_1 l1_0 l1_1 l1_2)) else (impl_SourceOk.j0 k true l0_0 l0_1 l1_0 l1_1 l1_2)) = some r := by rw [if_pos rfl] at H;exact H
   clear H
   have H := H1
   clear H1
   by_cases c8 : (l1_0.length : Int) = (l0_1.length : Int)
   ·rw [if_pos c8] at H
    have c8b0 : ((l1_0.length : Int) == (l0_1.length : Int)) = true := beq_iff_eq.mpr c8
    have c8b1 : ((l1_0.length : Int) != (l0_1.length : Int)) = false := bne_eq_false_iff_eq.mpr c8
    have c8b2 : (l1_0.length == l0_1.length) = true := by first | simpa using c8 | (simp at c8 ⊢;omega)
    clear c8
    (first | rw [c8b0] | (simp only [i64_w,i32_w];rw [c8b0]) | skip)
    by_cases c9 : (l1_1.length : Int) = (l0_0.length : Int)
    ·rw [if_pos c9] at H
     have c9b0 : ((l1_1.length : Int) == (l0_0.length : Int)) = true := beq_iff_eq.mpr c9
     have c9b1 : ((l1_1.length : Int) != (l0_0.length : Int)) = false := bne_eq_false_iff_eq.mpr c9
     have c9b2 : (l1_1.length == l0_0.length) = true := by first | simpa using c9 | (simp at c9 ⊢;omega)
     clear c9
     replace H := Option.bind_eq_some_iff.mp H
     obtain ⟨t421,A100,H⟩ := H
     replace H : (impl_SourceOk.j0 k (!t421) l0_0 l0_1 l1_0 l1_1 l1_2) = some r := H
     have A10 := aM_ A100
     clear A100
     have H' := aM_ H
     clear H
     have hnb11 := NB418_419.out
     have hnc11 := NB419_418.out
     have z_12 := bR2_ BK418.out
     go_wp2_with (first | ((with_reducible refine gate_callee (f := 63) rfl ?_);refine gL_ (some 10) Try.func63 #[.agg #[.slice A0_0 l0_0.length c0_0,.slice A0_1 l0_1.length c0_1]] ?_;(with_reducible refine (impl_ProgOk.calls k _ _ l0_0 _ _ l0_1 true _ ?side1 ?side2 ?side3 ?side4 A6.out).mono ?_);(case side1 => exact cS_ (Kd.C_below HR0_0.out HB.out));(case side2 => exact HC0_0.out);(case side3 => exact cS_ (Kd.C_below HR0_1.out HB.out));(case side4 => exact HC0_1.out);rintro e w13 ⟨rfl,hb⟩;refine ⟨_,rfl,?_⟩;replace BK418 := aM_ (nB_ BK418.out hb);replace BK419 := aM_ (nB_ BK419.out hb);replace HB := aM_ (sT_ HB.out hb);have z_14 := bR3_ BK419.out;have z_15 := bR2_ BK418.out) | (go_at_call 135;(with_reducible refine (impl_notesOk.calls k _ _ l1_2 (l1_0.length : Int) t421 _ ?side1 ?side2 A10.out).mono ?_);(case side1 => exact cS_ (Kd.C_below HR1_2.out HB.out));(case side2 => exact HC1_2.out);rintro e w16 ⟨rfl,hb⟩;replace BK418 := aM_ (nB_ BK418.out hb);replace BK419 := aM_ (nB_ BK419.out hb);replace HB := aM_ (sT_ HB.out hb)))
     go_meet
     case rel => exact ⟨_,(!t421),(by first | rfl | (simp;done) | (simp [*];done)),H',⟨by first | omega | exact Nat.le_refl _⟩,⟨rW_ BK418.out⟩,⟨rW_ BK419.out⟩,⟨gW_ HB.out⟩⟩
    ·rw [if_neg c9] at H
     have c9b0 : ((l1_1.length : Int) == (l0_0.length : Int)) = false := beq_eq_false_iff_ne.mpr c9
     have c9b1 : ((l1_1.length : Int) != (l0_0.length : Int)) = true := bne_iff_ne.mpr c9
     have c9b2 : (l1_1.length == l0_0.length) = false := by first | simpa using c9 | (simp at c9 ⊢;omega)
     have H' := aM_ H
     clear H
     have hnb17 := NB418_419.out
     have hnc17 := NB419_418.out
     have z_18 := bR2_ BK418.out
     go_wp2_with (first | ((with_reducible refine gate_callee (f := 63) rfl ?_);refine gL_ (some 10) Try.func63 #[.agg #[.slice A0_0 l0_0.length c0_0,.slice A0_1 l0_1.length c0_1]] ?_;(with_reducible refine (impl_ProgOk.calls k _ _ l0_0 _ _ l0_1 true _ ?side1 ?side2 ?side3 ?side4 A6.out).mono ?_);(case side1 => exact cS_ (Kd.C_below HR0_0.out HB.out));(case side2 => exact HC0_0.out);(case side3 => exact cS_ (Kd.C_below HR0_1.out HB.out));(case side4 => exact HC0_1.out);rintro e w19 ⟨rfl,hb⟩;refine ⟨_,rfl,?_⟩;replace BK418 := aM_ (nB_ BK418.out hb);replace BK419 := aM_ (nB_ BK419.out hb);replace HB := aM_ (sT_ HB.out hb);have z_20 := bR3_ BK419.out;have z_21 := bR2_ BK418.out))
     go_meet
     case rel => exact ⟨_,(true),(by first | rfl | (simp;done) | (simp [*];done)),H',⟨by first | omega | exact Nat.le_refl _⟩,⟨rW_ BK418.out⟩,⟨rW_ BK419.out⟩,⟨gW_ HB.out⟩⟩
   ·rw [if_neg c8] at H
    have c8b0 : ((l1_0.length : Int) == (l0_1.length : Int)) = false := beq_eq_false_iff_ne.mpr c8
    have c8b1 : ((l1_0.length : Int) != (l0_1.length : Int)) = true := bne_iff_ne.mpr c8
    have c8b2 : (l1_0.length == l0_1.length) = false := by first | simpa using c8 | (simp at c8 ⊢;omega)
    (first | rw [c8b0] | (simp only [i64_w,i32_w];rw [c8b0]) | skip)
    have H' := aM_ H
    clear H
    have hnb22 := NB418_419.out
    have hnc22 := NB419_418.out
    have z_23 := bR2_ BK418.out
    go_wp2_with (first | ((with_reducible refine gate_callee (f := 63) rfl ?_);refine gL_ (some 10) Try.func63 #[.agg #[.slice A0_0 l0_0.length c0_0,.slice A0_1 l0_1.length c0_1]] ?_;(with_reducible refine (impl_ProgOk.calls k _ _ l0_0 _ _ l0_1 true _ ?side1 ?side2 ?side3 ?side4 A6.out).mono ?_);(case side1 => exact cS_ (Kd.C_below HR0_0.out HB.out));(case side2 => exact HC0_0.out);(case side3 => exact cS_ (Kd.C_below HR0_1.out HB.out));(case side4 => exact HC0_1.out);rintro e w24 ⟨rfl,hb⟩;refine ⟨_,rfl,?_⟩;replace BK418 := aM_ (nB_ BK418.out hb);replace BK419 := aM_ (nB_ BK419.out hb);replace HB := aM_ (sT_ HB.out hb);have z_25 := bR3_ BK419.out;have z_26 := bR2_ BK418.out))
    go_meet
    case rel => exact ⟨_,(true),(by first | rfl | (simp;done) | (simp [*];done)),H',⟨by first | omega | exact Nat.le_refl _⟩,⟨rW_ BK418.out⟩,⟨rW_ BK419.out⟩,⟨gW_ HB.out⟩⟩
  ·replace c7 := Bool.eq_false_iff.mpr c7
   subst c7
   have H1 : (impl_SourceOk.j0 k true l0_0 l0_1 l1_0 l1_1 l1_2) = some r := by rw [if_neg (show ¬ (false = true) by decide)] at H;exact H
   clear H
   have H := H1
   clear H1
   have H' := aM_ H
   clear H
   have hnb27 := NB418_419.out
   have hnc27 := NB419_418.out
   have z_28 := bR2_ BK418.out
   go_wp2_with (first | ((with_reducible refine gate_callee (f := 63) rfl ?_);refine gL_ (some 10) Try.func63 #[.agg #[.slice A0_0 l0_0.length c0_0,.slice A0_1 l0_1.length c0_1]] ?_;(with_reducible refine (impl_ProgOk.calls k _ _ l0_0 _ _ l0_1 false _ ?side1 ?side2 ?side3 ?side4 A6.out).mono ?_);(case side1 => exact cS_ (Kd.C_below HR0_0.out HB.out));(case side2 => exact HC0_0.out);(case side3 => exact cS_ (Kd.C_below HR0_1.out HB.out));(case side4 => exact HC0_1.out);rintro e w29 ⟨rfl,hb⟩;refine ⟨_,rfl,?_⟩;replace BK418 := aM_ (nB_ BK418.out hb);replace BK419 := aM_ (nB_ BK419.out hb);replace HB := aM_ (sT_ HB.out hb)))
   go_meet
   case rel => exact ⟨_,(true),(by first | rfl | (simp;done) | (simp [*];done)),H',⟨by first | omega | exact Nat.le_refl _⟩,⟨rW_ BK418.out⟩,⟨rW_ BK419.out⟩,⟨gW_ HB.out⟩⟩
 case rest =>
  clear HC3
  try clear c1
  try clear c2
  try clear p2
  try clear c6
  try clear c7
  try clear c8
  try clear c8b0
  try clear c8b1
  try clear c8b2
  try clear c9
  try clear c9b0
  try clear c9b1
  try clear c9b2
  try clear c11
  try clear c17
  try clear c22
  try clear c27
  try clear z_12
  try clear z_14
  try clear z_15
  try clear z_18
  try clear z_20
  try clear z_21
  try clear z_23
  try clear z_25
  try clear z_26
  try clear z_28
  obtain ⟨kq,x38_2,rfl,HA,HJ2,BK418,BK419,HB⟩ := hcut
  cases kq with
  | zero => exact absurd HA.out (by simp [impl_SourceOk.j0])
  | succ kj2 =>
   have H := HA.out
   clear HA
   simp only [impl_SourceOk.j0] at H
   by_cases c30 : x38_2 = true
   ·subst c30
    have H1 : (some false) = some r := by rw [if_pos rfl] at H;exact H
    clear H
    have H := H1
    clear H1
    obtain rfl := Option.some.inj H
    go_wp2
    go_ret
    exact fI_ HB.out
   ·replace c30 := Bool.eq_false_iff.mpr c30
    subst c30
    have H1 : (impl_SourceOk.l0 kj2 l1_0 (l1_0.length : Int) 0 l0_0 l0_1 l1_0 l1_1 l1_2) = some r := by rw [if_neg (show ¬ (false = true) by decide)] at H;exact H
    clear H
    have H := H1
    clear H1
    have H' := aM_ H
    clear H
    have hnb31 := NB419_418.out
    have hnc31 := NB418_419.out
    have z_32 := bR3_ BK419.out
    go_wp2
    go_loopg [42] kj2 (fun kq v42 w' => ∃ (x42_2 : Int),v42 = .int .i64 x42_2 ∧ Aside0 (impl_SourceOk.l0 kq l1_0 (l1_0.length : Int) x42_2 l0_0 l0_1 l1_0 l1_1 l1_2 = some r) ∧ Aside0 (kq ≤ kj2) ∧ Aside0 (w'.heap[gb418]? = some (.cells #[(.slice A0_0 l0_0.length c0_0),(.slice A0_1 l0_1.length c0_1)] 44 (0,0))) ∧ Aside0 (w'.heap[gb419]? = some (.cells #[(.slice A1_0 l1_0.length c1_0),(.slice A1_1 l1_1.length c1_1),(.slice A1_2 l1_2.length c1_2)] 28 (0,0))) ∧ Aside0 (Below w.heap.size w w'))
    case atStart => exact ⟨(0),(by first | rfl | (simp;done) | (simp [*];done)),H',⟨Nat.le_refl _⟩,⟨rW_ BK418.out⟩,⟨rW_ BK419.out⟩,⟨gW_ HB.out⟩⟩
    case round =>
     clear H'
     try clear c1
     try clear c2
     try clear p2
     try clear c3
     try clear c6
     try clear c7
     try clear c8
     try clear c8b0
     try clear c8b1
     try clear c8b2
     try clear c9
     try clear c9b0
     try clear c9b1
     try clear c9b2
     try clear c11
     try clear c17
     try clear c22
     try clear c27
     try clear c30
     try clear c31
     try clear z_12
     try clear z_14
     try clear z_15
     try clear z_18
     try clear z_20
     try clear z_21
     try clear z_23
     try clear z_25
     try clear z_26
     try clear z_28
     try clear z_32
     try clear p2
     obtain ⟨x42_2,rfl,HA,HK2,BK418,BK419,HB⟩ := hrel
     cases gk with
     | zero => exact absurd HA.out (by simp [impl_SourceOk.l0])
     | succ k2 =>
      have H := HA.out
      clear HA
      simp only [impl_SourceOk.l0] at H
      by_cases c33 : x42_2 < (l1_0.length : Int)
      ·rw [if_pos c33] at H
       have c33b0 : decide (x42_2 < (l1_0.length : Int)) = true := decide_eq_true c33
       clear c33
       by_cases c34 : 0 ≤ x42_2
       ·rw [if_pos c34] at H
        have c34b0 : decide (0 ≤ x42_2) = true := decide_eq_true c34
        clear c34
        by_cases c35 : x42_2 < (l1_0.length : Int)
        ·rw [if_pos c35] at H
         have c35b0 : decide (x42_2 < (l1_0.length : Int)) = true := decide_eq_true c35
         clear c35
         have HC36 := aM_ H
         clear H
         have p422 : 0 ≤ (x42_2 : Int) := of_decide_eq_true (by first | (with_reducible assumption) | assumption)
         have q422 : x42_2 < (l1_0.length : Int) := of_decide_eq_true (by first | (with_reducible assumption) | assumption)
         obtain ⟨ad422,A422_1,c422_1,e422,hx422_0,hx422_1,hx422_2,hl422_1,hi422_1⟩ := at_T107 HR1_0.out x42_2 p422 q422
         cases e422
         replace hx422_0 := cB_ HB.out hx422_0
         replace hx422_1 := cB_ HB.out hx422_1
         replace hx422_2 := cB_ HB.out hx422_2
         have HR422_1 := aM_ hi422_1
         have HC422_1 := aM_ hl422_1
         clear hi422_1 hl422_1
         replace p422 := eq_true p422
         replace q422 := eq_true q422
         go_upto_region 6 with (first | ((with_reducible refine gate_dst (N := 6) rfl ?_);(try (refine gate_guard (by rfl) ?_;dsimp only));refine bX_ 6 (cs := #[.int .i64 0,.slice none 0 0,.int .i64 0]) (t := 107) ?_;intro gb423 hg w37 hbox hb;have BK423 := aM_ (hbox);have GE423 := aM_ (sZ_ hg HB.out);have NB418_423 := aM_ (nL_ hg BK418.out);have NB423_418 := aM_ (nG_ hg BK418.out);have NB419_423 := aM_ (nL_ hg BK419.out);have NB423_419 := aM_ (nG_ hg BK419.out);replace BK418 := aM_ (nB_ BK418.out hb);replace BK419 := aM_ (nB_ BK419.out hb);replace HB := aM_ (sT_ HB.out hb);clear hb hbox hg;have hnb38 := NB423_418.out;have hnc38 := NB418_423.out;have hnb39 := NB423_419.out;have hnc39 := NB419_423.out;have z_40 := bR3_ BK423.out))
         (try simp only [Act.put,List.setIfInBounds_toArray,List.set_cons_zero,List.set_cons_succ])
         go_cut [69] (fun v69 wc => ∃ (kq : Nat) (x69_35 : Bool),v69 = .bool x69_35 ∧ Aside0 (impl_SourceOk.j2 kq l1_0 (l1_0.length : Int) x42_2 x69_35 l0_0 l0_1 l1_0 l1_1 l1_2 = some r) ∧ Aside0 (kq ≤ k2) ∧ Aside0 (wc.heap[gb418]? = some (.cells #[(.slice A0_0 l0_0.length c0_0),(.slice A0_1 l0_1.length c0_1)] 44 (0,0))) ∧ Aside0 (wc.heap[gb419]? = some (.cells #[(.slice (some ad422) l1_0.length c1_0),(.slice A1_1 l1_1.length c1_1),(.slice A1_2 l1_2.length c1_2)] 28 (0,0))) ∧ Aside0 (wc.heap[gb423]? = some (.cells #[.int .i64 ((rd_T107 l1_0 x42_2).f0),(.slice A422_1 ((rd_T107 l1_0 x42_2).f1).length c422_1),.int .i64 ((rd_T107 l1_0 x42_2).f2)] 107 (0,0))) ∧ Aside0 (Below w.heap.size w wc))
         case first =>
          have H := HC36.out
          clear HC36
          by_cases c41 : (((rd_T107 l1_0 x42_2).f1).length : Int) = 4
          ·rw [if_pos c41] at H
           have c41b0 : ((((rd_T107 l1_0 x42_2).f1).length : Int) == 4) = true := beq_iff_eq.mpr c41
           have c41b1 : ((((rd_T107 l1_0 x42_2).f1).length : Int) != 4) = false := bne_eq_false_iff_eq.mpr c41
           clear c41
           (first | rw [c41b0] | (simp only [i64_w,i32_w];rw [c41b0]) | skip)
           replace H := Option.bind_eq_some_iff.mp H
           obtain ⟨t424,A420,H⟩ := H
           replace H : (if t424 = true then (if x42_2 < (l0_1.length : Int) then ((impl_within.f ((rd_T107 l1_0 x42_2).f0) 0 (wrap64 (((rd_L4 l0_1 x42_2).length : Int) - 1))).bind fun t426 => (impl_SourceOk.j2 k2 l1_0 (l1_0.length : Int) x42_2 (!t426) l0_0 l0_1 l1_0 l1_1 l1_2)) else (none)) else (impl_SourceOk.j2 k2 l1_0 (l1_0.length : Int) x42_2 true l0_0 l0_1 l1_0 l1_1 l1_2)) = some r := H
           have A42 := aM_ A420
           clear A420
           by_cases c43 : t424 = true
           ·subst c43
            have H1 : (if x42_2 < (l0_1.length : Int) then ((impl_within.f ((rd_T107 l1_0 x42_2).f0) 0 (wrap64 (((rd_L4 l0_1 x42_2).length : Int) - 1))).bind fun t426 => (impl_SourceOk.j2 k2 l1_0 (l1_0.length : Int) x42_2 (!t426) l0_0 l0_1 l1_0 l1_1 l1_2)) else (none)) = some r := by rw [if_pos rfl] at H;exact H
            clear H
            have H := H1
            clear H1
            by_cases c44 : x42_2 < (l0_1.length : Int)
            ·rw [if_pos c44] at H
             have c44b0 : decide (x42_2 < (l0_1.length : Int)) = true := decide_eq_true c44
             clear c44
             replace H := Option.bind_eq_some_iff.mp H
             obtain ⟨t426,A450,H⟩ := H
             replace H : (impl_SourceOk.j2 k2 l1_0 (l1_0.length : Int) x42_2 (!t426) l0_0 l0_1 l1_0 l1_1 l1_2) = some r := H
             have A45 := aM_ A450
             clear A450
             have H' := aM_ H
             clear H
             try go_wp2
             have n0 : Aside0 ((((w37.setCell ⟨gb423,0,none⟩ (.int .i64 ((rd_T107 l1_0 x42_2).f0))).setCell ⟨gb423,1,none⟩ (.slice A422_1 ((rd_T107 l1_0 x42_2).f1).length c422_1)).setCell ⟨gb423,2,none⟩ (.int .i64 ((rd_T107 l1_0 x42_2).f2))).heap[gb418]? = some (.cells #[.slice A0_0 l0_0.length c0_0,.slice A0_1 l0_1.length c0_1] 44 (0,0))) := ⟨rWf_ BK418.out⟩
             have n1 : Aside0 ((((w37.setCell ⟨gb423,0,none⟩ (.int .i64 ((rd_T107 l1_0 x42_2).f0))).setCell ⟨gb423,1,none⟩ (.slice A422_1 ((rd_T107 l1_0 x42_2).f1).length c422_1)).setCell ⟨gb423,2,none⟩ (.int .i64 ((rd_T107 l1_0 x42_2).f2))).heap[gb419]? = some (.cells #[.slice (some ad422) l1_0.length c1_0,.slice A1_1 l1_1.length c1_1,.slice A1_2 l1_2.length c1_2] 28 (0,0))) := ⟨rWf_ BK419.out⟩
             have n2 : Aside0 ((((w37.setCell ⟨gb423,0,none⟩ (.int .i64 ((rd_T107 l1_0 x42_2).f0))).setCell ⟨gb423,1,none⟩ (.slice A422_1 ((rd_T107 l1_0 x42_2).f1).length c422_1)).setCell ⟨gb423,2,none⟩ (.int .i64 ((rd_T107 l1_0 x42_2).f2))).heap[gb423]? = some (.cells #[.int .i64 ((rd_T107 l1_0 x42_2).f0),.slice A422_1 ((rd_T107 l1_0 x42_2).f1).length c422_1,.int .i64 ((rd_T107 l1_0 x42_2).f2)] 107 (0,0))) := ⟨by (with_reducible repeat (first | refine bN_ ?_ _ | refine bD_ ?_ | refine bA_ ?_ _));refine blk_put (cs := #[.int .i64 ((rd_T107 l1_0 x42_2).f0),.slice A422_1 ((rd_T107 l1_0 x42_2).f1).length c422_1,.int .i64 0]) ?_ 2 _ rfl;refine blk_put (cs := #[.int .i64 ((rd_T107 l1_0 x42_2).f0),.slice none 0 0,.int .i64 0]) ?_ 1 _ rfl;refine blk_put (cs := #[.int .i64 0,.slice none 0 0,.int .i64 0]) ?_ 0 _ rfl;(with_reducible repeat (first | refine bN_ ?_ _ | refine bD_ ?_ | refine bA_ ?_ _));exact BK423.out⟩
             have n3 : Aside0 (Below w.heap.size w (((w37.setCell ⟨gb423,0,none⟩ (.int .i64 ((rd_T107 l1_0 x42_2).f0))).setCell ⟨gb423,1,none⟩ (.slice A422_1 ((rd_T107 l1_0 x42_2).f1).length c422_1)).setCell ⟨gb423,2,none⟩ (.int .i64 ((rd_T107 l1_0 x42_2).f2)))) := ⟨gW_ HB.out⟩
             (try clear BK418)
             (try clear BK419)
             (try clear BK423)
             (try clear HB)
             generalize (((w37.setCell ⟨gb423,0,none⟩ (.int .i64 ((rd_T107 l1_0 x42_2).f0))).setCell ⟨gb423,1,none⟩ (.slice A422_1 ((rd_T107 l1_0 x42_2).f1).length c422_1)).setCell ⟨gb423,2,none⟩ (.int .i64 ((rd_T107 l1_0 x42_2).f2))) = w46 at n0 n1 n2 n3 ⊢
             have BK418 := n0
             have BK419 := n1
             have BK423 := n2
             have HB := n3
             clear n0 n1 n2 n3
             replace BK418 := aM_ (blk_drew BK418.out)
             replace BK419 := aM_ (blk_drew BK419.out)
             replace BK423 := aM_ (blk_drew BK423.out)
             replace HB := aM_ (below_drew1 HB.out)
             have p425 : 0 ≤ (x42_2 : Int) := of_decide_eq_true (by first | (with_reducible assumption) | assumption)
             have q425 : x42_2 < (l0_1.length : Int) := of_decide_eq_true (by first | (with_reducible assumption) | assumption)
             obtain ⟨ad425,A425_0,c425_0,e425,hx425_0,hl425_0,hi425_0⟩ := at_L4 HR0_1.out x42_2 p425 q425
             have hw425_0 := hx425_0
             cases e425
             replace hx425_0 := cB_ HB.out hx425_0
             have HR425_0 := aM_ hi425_0
             have HC425_0 := aM_ hl425_0
             clear hi425_0 hl425_0
             replace p425 := eq_true p425
             replace q425 := eq_true q425
             refine start_ (n := 23) (S := fun w' => w'.cell? ⟨gb423,0,none⟩ = some (.int .i64 ((rd_T107 l1_0 x42_2).f0)) ∧ w'.cell? ⟨gb423,1,none⟩ = some (.slice A422_1 ((rd_T107 l1_0 x42_2).f1).length c422_1) ∧ w'.cell? ⟨gb423,2,none⟩ = some (.int .i64 ((rd_T107 l1_0 x42_2).f2)) ∧ w'.cell? ⟨gb418,0,none⟩ = some (.slice A0_0 l0_0.length c0_0) ∧ w'.cell? ⟨gb418,1,none⟩ = some (.slice (some ad425) l0_1.length c0_1) ∧ w'.cell? (ad425.add (x42_2).toNat) = some (.slice A425_0 (rd_L4 l0_1 x42_2).length c425_0)) (ds := []) (mk_ 23 0) (by kernel_rfl) rfl rfl ⟨(blk_cell BK423.out 0).trans rfl,(blk_cell BK423.out 1).trans rfl,(blk_cell BK423.out 2).trans rfl,(blk_cell BK418.out 0).trans rfl,(blk_cell BK418.out 1).trans rfl,(cB_ HB.out hw425_0 :)⟩ (fun hHeld => ?_);refine with_tabW impl_SourceOk.tab6 impl_SourceOk.bits6 (fun HT_ HW_ => ?_)
             generalize w46.drew = w47 at BK418 BK419 BK423 HB HR425_0 hx425_0 hHeld ⊢
             refine pU_ 0 47 (mk_ 23 1) ?_
             refine tK6_ 1 48 (mk_ 23 3) ?_
             refine pU_ 2 49 (mk_ 23 7) ?_
             refine pU_ 3 50 (mk_ 23 15) ?_
             refine pU_ 4 51 (mk_ 23 31) ?_
             refine pU_ 5 52 (mk_ 23 63) ?_
             refine tK6_ 6 53 (mk_ 23 127) ?_
             refine oN_ 7 54 (mk_ 23 255) (fun K hK => ?_)
             refine gO_ Try.func106 #[.int .i64 ((rd_T107 l1_0 x42_2).f2),.int .i64 0,.int .i64 2] ?_
             with_reducible refine (impl_within.calls ((rd_T107 l1_0 x42_2).f2) 0 2 true _ A42.out).mono ?_
             rintro e w' ⟨rfl,⟨nd,rfl⟩⟩
             refine ⟨_,rfl,?_⟩
             refine kO_ hK (some 54) ⟨(blk_cell BK423.out 0).trans rfl,(blk_cell BK423.out 1).trans rfl,(blk_cell BK423.out 2).trans rfl,(blk_cell BK418.out 0).trans rfl,(blk_cell BK418.out 1).trans rfl,(cB_ HB.out hw425_0 :)⟩ (fun hHeld => ?_)
             clear hK K
             refine pU_ 8 55 (mk_ 23 511) ?_
             refine pU_ 9 56 (mk_ 23 1023) ?_
             refine pU_ 10 57 (mk_ 23 2047) ?_
             refine pU_ 11 58 (mk_ 23 4095) ?_
             refine pU_ 13 60 (mk_ 23 12287) ?_
             refine pU_ 15 62 (mk_ 23 45055) ?_
             refine tK6_ 12 59 (mk_ 23 49151) ?_
             refine tK6_ 14 61 (mk_ 23 65535) ?_
             refine pU_ 16 63 (mk_ 23 131071) ?_
             refine tK6_ 17 64 (mk_ 23 262143) ?_
             refine pU_ 18 65 (mk_ 23 524287) ?_
             refine pU_ 19 66 (mk_ 23 1048575) ?_
             refine oN_ 20 67 (mk_ 23 2097151) (fun K hK => ?_)
             refine gO_ Try.func106 #[.int .i64 ((rd_T107 l1_0 x42_2).f0),.int .i64 0,.int .i64 (wrap64 (((rd_L4 l0_1 x42_2).length : Int) - 1))] ?_
             with_reducible refine (impl_within.calls ((rd_T107 l1_0 x42_2).f0) 0 (wrap64 (((rd_L4 l0_1 x42_2).length : Int) - 1)) t426 _ A45.out).mono ?_
             rintro e w' ⟨rfl,⟨nd,rfl⟩⟩
             refine ⟨_,rfl,?_⟩
             refine kO_ hK (some 67) ⟨(blk_cell BK423.out 0).trans rfl,(blk_cell BK423.out 1).trans rfl,(blk_cell BK423.out 2).trans rfl,(blk_cell BK418.out 0).trans rfl,(blk_cell BK418.out 1).trans rfl,(cB_ HB.out hw425_0 :)⟩ (fun hHeld => ?_)
             clear hK K
             refine pU_ 21 68 (mk_ 23 4194303) ?_
             refine pU_ 22 69 (mk_ 23 8388607) ?_
             refine done_ (done_of HT_.out (by kernel_rfl)) ?_
             try go_wp2
             go_meet
             case rel => exact ⟨_,(!t426),(by first | rfl | (simp;done) | (simp [*];done)),H',⟨by have := HJ2.out;have := HK2.out;first | omega | exact Nat.le_refl _⟩,⟨rW_ BK418.out⟩,⟨rW_ BK419.out⟩,⟨rW_ BK423.out⟩,⟨gW_ HB.out⟩⟩
            ·rw [if_neg c44] at H
             exact absurd H (by simp)
           ·replace c43 := Bool.eq_false_iff.mpr c43
            subst c43
            have H1 : (impl_SourceOk.j2 k2 l1_0 (l1_0.length : Int) x42_2 true l0_0 l0_1 l1_0 l1_1 l1_2) = some r := by rw [if_neg (show ¬ (false = true) by decide)] at H;exact H
            clear H
            have H := H1
            clear H1
            have H' := aM_ H
            clear H
            try go_wp2
            have n0 : Aside0 ((((w37.setCell ⟨gb423,0,none⟩ (.int .i64 ((rd_T107 l1_0 x42_2).f0))).setCell ⟨gb423,1,none⟩ (.slice A422_1 ((rd_T107 l1_0 x42_2).f1).length c422_1)).setCell ⟨gb423,2,none⟩ (.int .i64 ((rd_T107 l1_0 x42_2).f2))).heap[gb418]? = some (.cells #[.slice A0_0 l0_0.length c0_0,.slice A0_1 l0_1.length c0_1] 44 (0,0))) := ⟨rWf_ BK418.out⟩
            have n1 : Aside0 ((((w37.setCell ⟨gb423,0,none⟩ (.int .i64 ((rd_T107 l1_0 x42_2).f0))).setCell ⟨gb423,1,none⟩ (.slice A422_1 ((rd_T107 l1_0 x42_2).f1).length c422_1)).setCell ⟨gb423,2,none⟩ (.int .i64 ((rd_T107 l1_0 x42_2).f2))).heap[gb419]? = some (.cells #[.slice (some ad422) l1_0.length c1_0,.slice A1_1 l1_1.length c1_1,.slice A1_2 l1_2.length c1_2] 28 (0,0))) := ⟨rWf_ BK419.out⟩
            have n2 : Aside0 ((((w37.setCell ⟨gb423,0,none⟩ (.int .i64 ((rd_T107 l1_0 x42_2).f0))).setCell ⟨gb423,1,none⟩ (.slice A422_1 ((rd_T107 l1_0 x42_2).f1).length c422_1)).setCell ⟨gb423,2,none⟩ (.int .i64 ((rd_T107 l1_0 x42_2).f2))).heap[gb423]? = some (.cells #[.int .i64 ((rd_T107 l1_0 x42_2).f0),.slice A422_1 ((rd_T107 l1_0 x42_2).f1).length c422_1,.int .i64 ((rd_T107 l1_0 x42_2).f2)] 107 (0,0))) := ⟨by (with_reducible repeat (first | refine bN_ ?_ _ | refine bD_ ?_ | refine bA_ ?_ _));refine blk_put (cs := #[.int .i64 ((rd_T107 l1_0 x42_2).f0),.slice A422_1 ((rd_T107 l1_0 x42_2).f1).length c422_1,.int .i64 0]) ?_ 2 _ rfl;refine blk_put (cs := #[.int .i64 ((rd_T107 l1_0 x42_2).f0),.slice none 0 0,.int .i64 0]) ?_ 1 _ rfl;refine blk_put (cs := #[.int .i64 0,.slice none 0 0,.int .i64 0]) ?_ 0 _ rfl;(with_reducible repeat (first | refine bN_ ?_ _ | refine bD_ ?_ | refine bA_ ?_ _));exact BK423.out⟩
            have n3 : Aside0 (Below w.heap.size w (((w37.setCell ⟨gb423,0,none⟩ (.int .i64 ((rd_T107 l1_0 x42_2).f0))).setCell ⟨gb423,1,none⟩ (.slice A422_1 ((rd_T107 l1_0 x42_2).f1).length c422_1)).setCell ⟨gb423,2,none⟩ (.int .i64 ((rd_T107 l1_0 x42_2).f2)))) := ⟨gW_ HB.out⟩
            (try clear BK418)
            (try clear BK419)
            (try clear BK423)
            (try clear HB)
            generalize (((w37.setCell ⟨gb423,0,none⟩ (.int .i64 ((rd_T107 l1_0 x42_2).f0))).setCell ⟨gb423,1,none⟩ (.slice A422_1 ((rd_T107 l1_0 x42_2).f1).length c422_1)).setCell ⟨gb423,2,none⟩ (.int .i64 ((rd_T107 l1_0 x42_2).f2))) = w48 at n0 n1 n2 n3 ⊢
            have BK418 := n0
            have BK419 := n1
            have BK423 := n2
            have HB := n3
            clear n0 n1 n2 n3
            replace BK418 := aM_ (blk_drew BK418.out)
            replace BK419 := aM_ (blk_drew BK419.out)
            replace BK423 := aM_ (blk_drew BK423.out)
            replace HB := aM_ (below_drew1 HB.out)
            refine start_ (n := 23) (S := fun w' => w'.cell? ⟨gb423,0,none⟩ = some (.int .i64 ((rd_T107 l1_0 x42_2).f0)) ∧ w'.cell? ⟨gb423,1,none⟩ = some (.slice A422_1 ((rd_T107 l1_0 x42_2).f1).length c422_1) ∧ w'.cell? ⟨gb423,2,none⟩ = some (.int .i64 ((rd_T107 l1_0 x42_2).f2))) (ds := []) (mk_ 23 0) (by kernel_rfl) rfl rfl (bC3_ BK423.out) (fun hHeld => ?_);refine with_tabW impl_SourceOk.tab6 impl_SourceOk.bits6 (fun HT_ HW_ => ?_)
            generalize w48.drew = w49 at BK418 BK419 BK423 HB hHeld ⊢
            refine pU_ 0 47 (mk_ 23 1) ?_
            refine tK3_ 1 48 (mk_ 23 3) ?_
            refine pU_ 2 49 (mk_ 23 7) ?_
            refine pU_ 3 50 (mk_ 23 15) ?_
            refine pU_ 4 51 (mk_ 23 31) ?_
            refine pU_ 5 52 (mk_ 23 63) ?_
            refine tK3_ 6 53 (mk_ 23 127) ?_
            refine oN_ 7 54 (mk_ 23 255) (fun K hK => ?_)
            refine gO_ Try.func106 #[.int .i64 ((rd_T107 l1_0 x42_2).f2),.int .i64 0,.int .i64 2] ?_
            with_reducible refine (impl_within.calls ((rd_T107 l1_0 x42_2).f2) 0 2 false _ A42.out).mono ?_
            rintro e w' ⟨rfl,⟨nd,rfl⟩⟩
            refine ⟨_,rfl,?_⟩
            refine kO_ hK (some 54) (bC3_ BK423.out) (fun hHeld => ?_)
            clear hK K
            refine pU_ 8 55 (mk_ 23 511) ?_
            refine pU_ 9 56 (mk_ 23 1023) ?_
            refine pU_ 10 57 (mk_ 23 2047) ?_
            refine pX_ 11 58 (mk_ 23 4095) ?_
            refine pX_ 12 59 (mk_ 23 8191) ?_
            refine pX_ 13 60 (mk_ 23 16383) ?_
            refine pX_ 14 61 (mk_ 23 32767) ?_
            refine pX_ 15 62 (mk_ 23 65535) ?_
            refine pX_ 16 63 (mk_ 23 131071) ?_
            refine pX_ 17 64 (mk_ 23 262143) ?_
            refine pX_ 18 65 (mk_ 23 524287) ?_
            refine pX_ 19 66 (mk_ 23 1048575) ?_
            refine pX_ 20 67 (mk_ 23 2097151) ?_
            refine pX_ 21 68 (mk_ 23 4194303) ?_
            refine pU_ 22 69 (mk_ 23 8388607) ?_
            refine done_ (done_of HT_.out (by kernel_rfl)) ?_
            try go_wp2
            go_meet
            case rel => exact ⟨_,(true),(by first | rfl | (simp;done) | (simp [*];done)),H',⟨by have := HJ2.out;have := HK2.out;first | omega | exact Nat.le_refl _⟩,⟨rW_ BK418.out⟩,⟨rW_ BK419.out⟩,⟨rW_ BK423.out⟩,⟨gW_ HB.out⟩⟩
          ·rw [if_neg c41] at H
           have c41b0 : ((((rd_T107 l1_0 x42_2).f1).length : Int) == 4) = false := beq_eq_false_iff_ne.mpr c41
           have c41b1 : ((((rd_T107 l1_0 x42_2).f1).length : Int) != 4) = true := bne_iff_ne.mpr c41
           (first | rw [c41b0] | (simp only [i64_w,i32_w];rw [c41b0]) | skip)
           have H' := aM_ H
           clear H
           try go_wp2
           have n0 : Aside0 ((((w37.setCell ⟨gb423,0,none⟩ (.int .i64 ((rd_T107 l1_0 x42_2).f0))).setCell ⟨gb423,1,none⟩ (.slice A422_1 ((rd_T107 l1_0 x42_2).f1).length c422_1)).setCell ⟨gb423,2,none⟩ (.int .i64 ((rd_T107 l1_0 x42_2).f2))).heap[gb418]? = some (.cells #[.slice A0_0 l0_0.length c0_0,.slice A0_1 l0_1.length c0_1] 44 (0,0))) := ⟨rWf_ BK418.out⟩
           have n1 : Aside0 ((((w37.setCell ⟨gb423,0,none⟩ (.int .i64 ((rd_T107 l1_0 x42_2).f0))).setCell ⟨gb423,1,none⟩ (.slice A422_1 ((rd_T107 l1_0 x42_2).f1).length c422_1)).setCell ⟨gb423,2,none⟩ (.int .i64 ((rd_T107 l1_0 x42_2).f2))).heap[gb419]? = some (.cells #[.slice (some ad422) l1_0.length c1_0,.slice A1_1 l1_1.length c1_1,.slice A1_2 l1_2.length c1_2] 28 (0,0))) := ⟨rWf_ BK419.out⟩
           have n2 : Aside0 ((((w37.setCell ⟨gb423,0,none⟩ (.int .i64 ((rd_T107 l1_0 x42_2).f0))).setCell ⟨gb423,1,none⟩ (.slice A422_1 ((rd_T107 l1_0 x42_2).f1).length c422_1)).setCell ⟨gb423,2,none⟩ (.int .i64 ((rd_T107 l1_0 x42_2).f2))).heap[gb423]? = some (.cells #[.int .i64 ((rd_T107 l1_0 x42_2).f0),.slice A422_1 ((rd_T107 l1_0 x42_2).f1).length c422_1,.int .i64 ((rd_T107 l1_0 x42_2).f2)] 107 (0,0))) := ⟨by (with_reducible repeat (first | refine bN_ ?_ _ | refine bD_ ?_ | refine bA_ ?_ _));refine blk_put (cs := #[.int .i64 ((rd_T107 l1_0 x42_2).f0),.slice A422_1 ((rd_T107 l1_0 x42_2).f1).length c422_1,.int .i64 0]) ?_ 2 _ rfl;refine blk_put (cs := #[.int .i64 ((rd_T107 l1_0 x42_2).f0),.slice none 0 0,.int .i64 0]) ?_ 1 _ rfl;refine blk_put (cs := #[.int .i64 0,.slice none 0 0,.int .i64 0]) ?_ 0 _ rfl;(with_reducible repeat (first | refine bN_ ?_ _ | refine bD_ ?_ | refine bA_ ?_ _));exact BK423.out⟩
           have n3 : Aside0 (Below w.heap.size w (((w37.setCell ⟨gb423,0,none⟩ (.int .i64 ((rd_T107 l1_0 x42_2).f0))).setCell ⟨gb423,1,none⟩ (.slice A422_1 ((rd_T107 l1_0 x42_2).f1).length c422_1)).setCell ⟨gb423,2,none⟩ (.int .i64 ((rd_T107 l1_0 x42_2).f2)))) := ⟨gW_ HB.out⟩
           (try clear BK418)
           (try clear BK419)
           (try clear BK423)
           (try clear HB)
           generalize (((w37.setCell ⟨gb423,0,none⟩ (.int .i64 ((rd_T107 l1_0 x42_2).f0))).setCell ⟨gb423,1,none⟩ (.slice A422_1 ((rd_T107 l1_0 x42_2).f1).length c422_1)).setCell ⟨gb423,2,none⟩ (.int .i64 ((rd_T107 l1_0 x42_2).f2))) = w50 at n0 n1 n2 n3 ⊢
           have BK418 := n0
           have BK419 := n1
           have BK423 := n2
           have HB := n3
           clear n0 n1 n2 n3
           replace BK418 := aM_ (blk_drew BK418.out)
           replace BK419 := aM_ (blk_drew BK419.out)
           replace BK423 := aM_ (blk_drew BK423.out)
           replace HB := aM_ (below_drew1 HB.out)
           refine start_ (n := 23) (S := fun w' => w'.cell? ⟨gb423,0,none⟩ = some (.int .i64 ((rd_T107 l1_0 x42_2).f0)) ∧ w'.cell? ⟨gb423,1,none⟩ = some (.slice A422_1 ((rd_T107 l1_0 x42_2).f1).length c422_1) ∧ w'.cell? ⟨gb423,2,none⟩ = some (.int .i64 ((rd_T107 l1_0 x42_2).f2))) (ds := []) (mk_ 23 0) (by kernel_rfl) rfl rfl (bC3_ BK423.out) (fun hHeld => ?_);refine with_tabW impl_SourceOk.tab6 impl_SourceOk.bits6 (fun HT_ HW_ => ?_)
           generalize w50.drew = w51 at BK418 BK419 BK423 HB hHeld ⊢
           refine pU_ 0 47 (mk_ 23 1) ?_
           refine tK3_ 1 48 (mk_ 23 3) ?_
           refine pU_ 2 49 (mk_ 23 7) ?_
           refine pU_ 3 50 (mk_ 23 15) ?_
           refine pU_ 4 51 (mk_ 23 31) ?_
           refine pX_ 5 52 (mk_ 23 63) ?_
           refine pX_ 6 53 (mk_ 23 127) ?_
           refine pX_ 7 54 (mk_ 23 255) ?_
           refine pX_ 8 55 (mk_ 23 511) ?_
           refine pU_ 9 56 (mk_ 23 1023) ?_
           refine pU_ 10 57 (mk_ 23 2047) ?_
           refine pX_ 11 58 (mk_ 23 4095) ?_
           refine pX_ 12 59 (mk_ 23 8191) ?_
           refine pX_ 13 60 (mk_ 23 16383) ?_
           refine pX_ 14 61 (mk_ 23 32767) ?_
           refine pX_ 15 62 (mk_ 23 65535) ?_
           refine pX_ 16 63 (mk_ 23 131071) ?_
           refine pX_ 17 64 (mk_ 23 262143) ?_
           refine pX_ 18 65 (mk_ 23 524287) ?_
           refine pX_ 19 66 (mk_ 23 1048575) ?_
           refine pX_ 20 67 (mk_ 23 2097151) ?_
           refine pX_ 21 68 (mk_ 23 4194303) ?_
           refine pU_ 22 69 (mk_ 23 8388607) ?_
           refine done_ (done_of HT_.out (by kernel_rfl)) ?_
           try go_wp2
           go_meet
           case rel => exact ⟨_,(true),(by first | rfl | (simp;done) | (simp [*];done)),H',⟨by have := HJ2.out;have := HK2.out;first | omega | exact Nat.le_refl _⟩,⟨rW_ BK418.out⟩,⟨rW_ BK419.out⟩,⟨rW_ BK423.out⟩,⟨gW_ HB.out⟩⟩
         case rest =>
          clear HC36
          try clear c1
          try clear p2
          try clear c4
          try clear p4
          try clear q4
          try clear hx4
          try clear p6
          try clear c10
          try clear c41
          try clear c41b0
          try clear c41b1
          try clear c42
          try clear p42
          try clear q42
          try clear hx42
          try clear c43
          try clear c44
          try clear c44b0
          try clear hx425_0
          try clear p425
          try clear q425
          obtain ⟨kq,x69_35,rfl,HA,HJ35,BK418,BK419,BK423,HB⟩ := hcut
          cases kq with
          | zero => exact absurd HA.out (by simp [impl_SourceOk.j2])
          | succ kj35 =>
           have H := HA.out
           clear HA
           simp only [impl_SourceOk.j2] at H
           by_cases c52 : x69_35 = true
           ·subst c52
            have H1 : (some false) = some r := by rw [if_pos rfl] at H;exact H
            clear H
            have H := H1
            clear H1
            obtain rfl := Option.some.inj H
            go_wp2
            go_ret
            exact fI_ HB.out
           ·replace c52 := Bool.eq_false_iff.mpr c52
            subst c52
            have H1 : (impl_SourceOk.l0 kj35 l1_0 (l1_0.length : Int) (wrap64 (x42_2 + 1)) l0_0 l0_1 l1_0 l1_1 l1_2) = some r := by rw [if_neg (show ¬ (false = true) by decide)] at H;exact H
            clear H
            have H := H1
            clear H1
            have H' := aM_ H
            clear H
            go_wp2
            go_roundg kj35
            case measure => have := HJ2.out;have := HK2.out;have := HJ35.out;omega
            case rel => exact ⟨(wrap64 (x42_2 + 1)),(by first | rfl | (simp;done) | (simp [*];done)),H',⟨by have := HJ2.out;have := HK2.out;have := HJ35.out;omega⟩,⟨rW_ BK418.out⟩,⟨rW_ BK419.out⟩,⟨gW_ HB.out⟩⟩
        ·rw [if_neg c35] at H
         exact absurd H (by simp)
       ·rw [if_neg c34] at H
        exact absurd H (by simp)
      ·rw [if_neg c33] at H
       have c33b0 : decide (x42_2 < (l1_0.length : Int)) = false := decide_eq_false c33
       clear c33
       have H' := aM_ H
       clear H
       have hnb53 := NB419_418.out
       have hnc53 := NB418_419.out
       have z_54 := bR3_ BK419.out
       go_wp2
       go_loopg [74] k2 (fun kq v74 w' => ∃ (x74_3 : Int),v74 = .int .i64 x74_3 ∧ Aside0 (impl_SourceOk.l1 kq l1_1 (l1_1.length : Int) x74_3 l0_0 l0_1 = some r) ∧ Aside0 (kq ≤ k2) ∧ Aside0 (w'.heap[gb418]? = some (.cells #[(.slice A0_0 l0_0.length c0_0),(.slice A0_1 l0_1.length c0_1)] 44 (0,0))) ∧ Aside0 (w'.heap[gb419]? = some (.cells #[(.slice A1_0 l1_0.length c1_0),(.slice A1_1 l1_1.length c1_1),(.slice A1_2 l1_2.length c1_2)] 28 (0,0))) ∧ Aside0 (Below w.heap.size w w'))
       case atStart => exact ⟨(0),(by first | rfl | (simp;done) | (simp [*];done)),H',⟨Nat.le_refl _⟩,⟨rW_ BK418.out⟩,⟨rW_ BK419.out⟩,⟨gW_ HB.out⟩⟩
       case round =>
        clear H'
        try clear c1
        try clear p2
        try clear c3
        try clear c4
        try clear p4
        try clear q4
        try clear hx4
        try clear c5
        try clear p6
        try clear c10
        try clear c33
        try clear c33b0
        try clear c34
        try clear c35
        try clear c41
        try clear c41b0
        try clear c41b1
        try clear c42
        try clear p42
        try clear q42
        try clear hx42
        try clear c43
        try clear c44
        try clear c44b0
        try clear c52
        try clear c53
        try clear z_54
        try clear hx425_0
        try clear p2
        try clear p4
        try clear p42
        try clear p425
        try clear p6
        try clear q4
        try clear q42
        try clear q425
        obtain ⟨x74_3,rfl,HA,HK3,BK418,BK419,HB⟩ := hrel
        cases gk with
        | zero => exact absurd HA.out (by simp [impl_SourceOk.l1])
        | succ k3 =>
         have H := HA.out
         clear HA
         simp only [impl_SourceOk.l1] at H
         by_cases c55 : x74_3 < (l1_1.length : Int)
         ·rw [if_pos c55] at H
          have c55b0 : decide (x74_3 < (l1_1.length : Int)) = true := decide_eq_true c55
          clear c55
          by_cases c56 : 0 ≤ x74_3
          ·rw [if_pos c56] at H
           have c56b0 : decide (0 ≤ x74_3) = true := decide_eq_true c56
           clear c56
           by_cases c57 : x74_3 < (l1_1.length : Int)
           ·rw [if_pos c57] at H
            have c57b0 : decide (x74_3 < (l1_1.length : Int)) = true := decide_eq_true c57
            clear c57
            replace H := Option.bind_eq_some_iff.mp H
            obtain ⟨t429,A580,H⟩ := H
            replace H : (if t429 = true then (if x74_3 < (l0_0.length : Int) then (if ((rd_T94 l1_1 x74_3).f0) = (rd l0_0 x74_3) then (impl_SourceOk.l1 k3 l1_1 (l1_1.length : Int) (wrap64 (x74_3 + 1)) l0_0 l0_1) else (some false)) else (none)) else (some false)) = some r := H
            have A58 := aM_ A580
            clear A580
            by_cases c59 : t429 = true
            ·subst c59
             have H1 : (if x74_3 < (l0_0.length : Int) then (if ((rd_T94 l1_1 x74_3).f0) = (rd l0_0 x74_3) then (impl_SourceOk.l1 k3 l1_1 (l1_1.length : Int) (wrap64 (x74_3 + 1)) l0_0 l0_1) else (some false)) else (none)) = some r := by rw [if_pos rfl] at H;exact H
             clear H
             have H := H1
             clear H1
             by_cases c60 : x74_3 < (l0_0.length : Int)
             ·rw [if_pos c60] at H
              have c60b0 : decide (x74_3 < (l0_0.length : Int)) = true := decide_eq_true c60
              clear c60
              by_cases c61 : ((rd_T94 l1_1 x74_3).f0) = (rd l0_0 x74_3)
              ·rw [if_pos c61] at H
               have c61b0 : (((rd_T94 l1_1 x74_3).f0) == (rd l0_0 x74_3)) = true := beq_iff_eq.mpr c61
               have c61b1 : (((rd_T94 l1_1 x74_3).f0) != (rd l0_0 x74_3)) = false := bne_eq_false_iff_eq.mpr c61
               clear c61
               have H' := aM_ H
               clear H
               have p427 : 0 ≤ (x74_3 : Int) := of_decide_eq_true (by first | (with_reducible assumption) | assumption)
               have q427 : x74_3 < (l1_1.length : Int) := of_decide_eq_true (by first | (with_reducible assumption) | assumption)
               obtain ⟨ad427,A427_1,c427_1,e427,hx427_0,hx427_1,hx427_2,hl427_1,hi427_1⟩ := at_T94 HR1_1.out x74_3 p427 q427
               cases e427
               replace hx427_0 := cB_ HB.out hx427_0
               replace hx427_1 := cB_ HB.out hx427_1
               replace hx427_2 := cB_ HB.out hx427_2
               have HR427_1 := aM_ hi427_1
               have HC427_1 := aM_ hl427_1
               clear hi427_1 hl427_1
               replace p427 := eq_true p427
               replace q427 := eq_true q427
               try go_wp2_with (first | ((with_reducible refine gate_dst (N := 8) rfl ?_);(try (refine gate_guard (by rfl) ?_;dsimp only));refine bX_ 8 (cs := #[.int .i64 0,.slice none 0 0,.bool false]) (t := 94) ?_;intro gb428 hg w62 hbox hb;have BK428 := aM_ (hbox);have GE428 := aM_ (sZ_ hg HB.out);have NB418_428 := aM_ (nL_ hg BK418.out);have NB428_418 := aM_ (nG_ hg BK418.out);have NB419_428 := aM_ (nL_ hg BK419.out);have NB428_419 := aM_ (nG_ hg BK419.out);replace BK418 := aM_ (nB_ BK418.out hb);replace BK419 := aM_ (nB_ BK419.out hb);replace HB := aM_ (sT_ HB.out hb);clear hb hbox hg;have hnb63 := NB428_418.out;have hnc63 := NB418_428.out;have hnb64 := NB428_419.out;have hnc64 := NB419_428.out;have z_65 := bR3_ BK428.out))
               have n0 : Aside0 ((((w62.setCell ⟨gb428,0,none⟩ (.int .i64 ((rd_T94 l1_1 x74_3).f0))).setCell ⟨gb428,1,none⟩ (.slice A427_1 ((rd_T94 l1_1 x74_3).f1).length c427_1)).setCell ⟨gb428,2,none⟩ (.bool ((rd_T94 l1_1 x74_3).f2))).heap[gb418]? = some (.cells #[.slice A0_0 l0_0.length c0_0,.slice A0_1 l0_1.length c0_1] 44 (0,0))) := ⟨rWf_ BK418.out⟩
               have n1 : Aside0 ((((w62.setCell ⟨gb428,0,none⟩ (.int .i64 ((rd_T94 l1_1 x74_3).f0))).setCell ⟨gb428,1,none⟩ (.slice A427_1 ((rd_T94 l1_1 x74_3).f1).length c427_1)).setCell ⟨gb428,2,none⟩ (.bool ((rd_T94 l1_1 x74_3).f2))).heap[gb419]? = some (.cells #[.slice A1_0 l1_0.length c1_0,.slice (some ad427) l1_1.length c1_1,.slice A1_2 l1_2.length c1_2] 28 (0,0))) := ⟨rWf_ BK419.out⟩
               have n2 : Aside0 ((((w62.setCell ⟨gb428,0,none⟩ (.int .i64 ((rd_T94 l1_1 x74_3).f0))).setCell ⟨gb428,1,none⟩ (.slice A427_1 ((rd_T94 l1_1 x74_3).f1).length c427_1)).setCell ⟨gb428,2,none⟩ (.bool ((rd_T94 l1_1 x74_3).f2))).heap[gb428]? = some (.cells #[.int .i64 ((rd_T94 l1_1 x74_3).f0),.slice A427_1 ((rd_T94 l1_1 x74_3).f1).length c427_1,.bool ((rd_T94 l1_1 x74_3).f2)] 94 (0,0))) := ⟨by (with_reducible repeat (first | refine bN_ ?_ _ | refine bD_ ?_ | refine bA_ ?_ _));refine blk_put (cs := #[.int .i64 ((rd_T94 l1_1 x74_3).f0),.slice A427_1 ((rd_T94 l1_1 x74_3).f1).length c427_1,.bool false]) ?_ 2 _ rfl;refine blk_put (cs := #[.int .i64 ((rd_T94 l1_1 x74_3).f0),.slice none 0 0,.bool false]) ?_ 1 _ rfl;refine blk_put (cs := #[.int .i64 0,.slice none 0 0,.bool false]) ?_ 0 _ rfl;(with_reducible repeat (first | refine bN_ ?_ _ | refine bD_ ?_ | refine bA_ ?_ _));exact BK428.out⟩
               have n3 : Aside0 (Below w.heap.size w (((w62.setCell ⟨gb428,0,none⟩ (.int .i64 ((rd_T94 l1_1 x74_3).f0))).setCell ⟨gb428,1,none⟩ (.slice A427_1 ((rd_T94 l1_1 x74_3).f1).length c427_1)).setCell ⟨gb428,2,none⟩ (.bool ((rd_T94 l1_1 x74_3).f2)))) := ⟨gW_ HB.out⟩
               (try clear BK418)
               (try clear BK419)
               (try clear BK428)
               (try clear HB)
               generalize (((w62.setCell ⟨gb428,0,none⟩ (.int .i64 ((rd_T94 l1_1 x74_3).f0))).setCell ⟨gb428,1,none⟩ (.slice A427_1 ((rd_T94 l1_1 x74_3).f1).length c427_1)).setCell ⟨gb428,2,none⟩ (.bool ((rd_T94 l1_1 x74_3).f2))) = w66 at n0 n1 n2 n3 ⊢
               have BK418 := n0
               have BK419 := n1
               have BK428 := n2
               have HB := n3
               clear n0 n1 n2 n3
               replace BK418 := aM_ (blk_drew BK418.out)
               replace BK419 := aM_ (blk_drew BK419.out)
               replace BK428 := aM_ (blk_drew BK428.out)
               replace HB := aM_ (below_drew1 HB.out)
               have p430 : 0 ≤ (x74_3 : Int) := of_decide_eq_true (by first | (with_reducible assumption) | assumption)
               have q430 : x74_3 < (l0_0.length : Int) := of_decide_eq_true (by first | (with_reducible assumption) | assumption)
               obtain ⟨ad430,e430,hx430_0⟩ := Kd.at_int HR0_0.out x74_3 p430 q430
               have hw430_0 := hx430_0
               cases e430
               replace hx430_0 := cB_ HB.out hx430_0
               replace p430 := eq_true p430
               replace q430 := eq_true q430
               refine start_ (n := 13) (S := fun w' => w'.cell? ⟨gb428,0,none⟩ = some (.int .i64 ((rd_T94 l1_1 x74_3).f0)) ∧ w'.cell? ⟨gb428,1,none⟩ = some (.slice A427_1 ((rd_T94 l1_1 x74_3).f1).length c427_1) ∧ w'.cell? ⟨gb428,2,none⟩ = some (.bool ((rd_T94 l1_1 x74_3).f2)) ∧ w'.cell? ⟨gb418,0,none⟩ = some (.slice (some ad430) l0_0.length c0_0) ∧ w'.cell? ⟨gb418,1,none⟩ = some (.slice A0_1 l0_1.length c0_1) ∧ w'.cell? (ad430.add (x74_3).toNat) = some (.int .i64 (rd l0_0 x74_3))) (ds := []) (mk_ 13 0) (by kernel_rfl) rfl rfl ⟨(blk_cell BK428.out 0).trans rfl,(blk_cell BK428.out 1).trans rfl,(blk_cell BK428.out 2).trans rfl,(blk_cell BK418.out 0).trans rfl,(blk_cell BK418.out 1).trans rfl,(cB_ HB.out hw430_0 :)⟩ (fun hHeld => ?_);refine with_tabW impl_SourceOk.tab12 impl_SourceOk.bits12 (fun HT_ HW_ => ?_)
               generalize w66.drew = w67 at BK418 BK419 BK428 HB hx430_0 hHeld ⊢
               refine tK6_ 0 79 (mk_ 13 1) ?_
               refine oN_ 1 80 (mk_ 13 3) (fun K hK => ?_)
               refine gO_ Try.func54 #[.agg #[.int .i64 ((rd_T94 l1_1 x74_3).f0),.slice A427_1 ((rd_T94 l1_1 x74_3).f1).length c427_1,.bool ((rd_T94 l1_1 x74_3).f2)]] ?_
               with_reducible refine (impl_ChanOk.calls ((rd_T94 l1_1 x74_3).f0) _ _ ((rd_T94 l1_1 x74_3).f1) ((rd_T94 l1_1 x74_3).f2) true _ ?side1 ?side2 A58.out).mono ?_
               (case side1 => exact cS_ (Kd.C_below HR427_1.out HB.out))
               (case side2 => exact HC427_1.out)
               rintro e w68 ⟨rfl,hb⟩
               refine ⟨_,rfl,?_⟩
               replace BK418 := aM_ (nB_ BK418.out hb)
               replace BK419 := aM_ (nB_ BK419.out hb)
               replace BK428 := aM_ (nB_ BK428.out hb)
               replace HB := aM_ (sT_ HB.out hb)
               (try clear hb)
               (try clear hb2)
               (try clear hk)
               (try clear hi)
               refine kO_ hK (some 80) ⟨(blk_cell BK428.out 0).trans rfl,(blk_cell BK428.out 1).trans rfl,(blk_cell BK428.out 2).trans rfl,(blk_cell BK418.out 0).trans rfl,(blk_cell BK418.out 1).trans rfl,(cB_ HB.out hw430_0 :)⟩ (fun hHeld => ?_)
               clear hK K
               refine pU_ 2 81 (mk_ 13 7) ?_
               refine pU_ 3 82 (mk_ 13 15) ?_
               refine pU_ 4 83 (mk_ 13 31) ?_
               refine pU_ 6 85 (mk_ 13 95) ?_
               refine pU_ 8 87 (mk_ 13 351) ?_
               refine tK6_ 5 84 (mk_ 13 383) ?_
               refine tK6_ 7 86 (mk_ 13 511) ?_
               refine pU_ 9 88 (mk_ 13 1023) ?_
               refine tK6_ 10 89 (mk_ 13 2047) ?_
               refine pU_ 11 90 (mk_ 13 4095) ?_
               refine pU_ 12 91 (mk_ 13 8191) ?_
               refine done_ (done_of HT_.out (by kernel_rfl)) ?_
               try go_wp2
               go_roundg k3
               case measure => have := HJ2.out;have := HK2.out;have := HK3.out;omega
               case rel => exact ⟨(wrap64 (x74_3 + 1)),(by first | rfl | (simp;done) | (simp [*];done)),H',⟨by have := HJ2.out;have := HK2.out;have := HK3.out;omega⟩,⟨rW_ BK418.out⟩,⟨rW_ BK419.out⟩,⟨gW_ HB.out⟩⟩
              ·rw [if_neg c61] at H
               have c61b0 : (((rd_T94 l1_1 x74_3).f0) == (rd l0_0 x74_3)) = false := beq_eq_false_iff_ne.mpr c61
               have c61b1 : (((rd_T94 l1_1 x74_3).f0) != (rd l0_0 x74_3)) = true := bne_iff_ne.mpr c61
               obtain rfl := Option.some.inj H
               have p427 : 0 ≤ (x74_3 : Int) := of_decide_eq_true (by first | (with_reducible assumption) | assumption)
               have q427 : x74_3 < (l1_1.length : Int) := of_decide_eq_true (by first | (with_reducible assumption) | assumption)
               obtain ⟨ad427,A427_1,c427_1,e427,hx427_0,hx427_1,hx427_2,hl427_1,hi427_1⟩ := at_T94 HR1_1.out x74_3 p427 q427
               cases e427
               replace hx427_0 := cB_ HB.out hx427_0
               replace hx427_1 := cB_ HB.out hx427_1
               replace hx427_2 := cB_ HB.out hx427_2
               have HR427_1 := aM_ hi427_1
               have HC427_1 := aM_ hl427_1
               clear hi427_1 hl427_1
               replace p427 := eq_true p427
               replace q427 := eq_true q427
               try go_wp2_with (first | ((with_reducible refine gate_dst (N := 8) rfl ?_);(try (refine gate_guard (by rfl) ?_;dsimp only));refine bX_ 8 (cs := #[.int .i64 0,.slice none 0 0,.bool false]) (t := 94) ?_;intro gb428 hg w69 hbox hb;have BK428 := aM_ (hbox);have GE428 := aM_ (sZ_ hg HB.out);have NB418_428 := aM_ (nL_ hg BK418.out);have NB428_418 := aM_ (nG_ hg BK418.out);have NB419_428 := aM_ (nL_ hg BK419.out);have NB428_419 := aM_ (nG_ hg BK419.out);replace BK418 := aM_ (nB_ BK418.out hb);replace BK419 := aM_ (nB_ BK419.out hb);replace HB := aM_ (sT_ HB.out hb);clear hb hbox hg;have hnb70 := NB428_418.out;have hnc70 := NB418_428.out;have hnb71 := NB428_419.out;have hnc71 := NB419_428.out;have z_72 := bR3_ BK428.out))
               have n0 : Aside0 ((((w69.setCell ⟨gb428,0,none⟩ (.int .i64 ((rd_T94 l1_1 x74_3).f0))).setCell ⟨gb428,1,none⟩ (.slice A427_1 ((rd_T94 l1_1 x74_3).f1).length c427_1)).setCell ⟨gb428,2,none⟩ (.bool ((rd_T94 l1_1 x74_3).f2))).heap[gb418]? = some (.cells #[.slice A0_0 l0_0.length c0_0,.slice A0_1 l0_1.length c0_1] 44 (0,0))) := ⟨rWf_ BK418.out⟩
               have n1 : Aside0 ((((w69.setCell ⟨gb428,0,none⟩ (.int .i64 ((rd_T94 l1_1 x74_3).f0))).setCell ⟨gb428,1,none⟩ (.slice A427_1 ((rd_T94 l1_1 x74_3).f1).length c427_1)).setCell ⟨gb428,2,none⟩ (.bool ((rd_T94 l1_1 x74_3).f2))).heap[gb419]? = some (.cells #[.slice A1_0 l1_0.length c1_0,.slice (some ad427) l1_1.length c1_1,.slice A1_2 l1_2.length c1_2] 28 (0,0))) := ⟨rWf_ BK419.out⟩
               have n2 : Aside0 ((((w69.setCell ⟨gb428,0,none⟩ (.int .i64 ((rd_T94 l1_1 x74_3).f0))).setCell ⟨gb428,1,none⟩ (.slice A427_1 ((rd_T94 l1_1 x74_3).f1).length c427_1)).setCell ⟨gb428,2,none⟩ (.bool ((rd_T94 l1_1 x74_3).f2))).heap[gb428]? = some (.cells #[.int .i64 ((rd_T94 l1_1 x74_3).f0),.slice A427_1 ((rd_T94 l1_1 x74_3).f1).length c427_1,.bool ((rd_T94 l1_1 x74_3).f2)] 94 (0,0))) := ⟨by (with_reducible repeat (first | refine bN_ ?_ _ | refine bD_ ?_ | refine bA_ ?_ _));refine blk_put (cs := #[.int .i64 ((rd_T94 l1_1 x74_3).f0),.slice A427_1 ((rd_T94 l1_1 x74_3).f1).length c427_1,.bool false]) ?_ 2 _ rfl;refine blk_put (cs := #[.int .i64 ((rd_T94 l1_1 x74_3).f0),.slice none 0 0,.bool false]) ?_ 1 _ rfl;refine blk_put (cs := #[.int .i64 0,.slice none 0 0,.bool false]) ?_ 0 _ rfl;(with_reducible repeat (first | refine bN_ ?_ _ | refine bD_ ?_ | refine bA_ ?_ _));exact BK428.out⟩
               have n3 : Aside0 (Below w.heap.size w (((w69.setCell ⟨gb428,0,none⟩ (.int .i64 ((rd_T94 l1_1 x74_3).f0))).setCell ⟨gb428,1,none⟩ (.slice A427_1 ((rd_T94 l1_1 x74_3).f1).length c427_1)).setCell ⟨gb428,2,none⟩ (.bool ((rd_T94 l1_1 x74_3).f2)))) := ⟨gW_ HB.out⟩
               (try clear BK418)
               (try clear BK419)
               (try clear BK428)
               (try clear HB)
               generalize (((w69.setCell ⟨gb428,0,none⟩ (.int .i64 ((rd_T94 l1_1 x74_3).f0))).setCell ⟨gb428,1,none⟩ (.slice A427_1 ((rd_T94 l1_1 x74_3).f1).length c427_1)).setCell ⟨gb428,2,none⟩ (.bool ((rd_T94 l1_1 x74_3).f2))) = w73 at n0 n1 n2 n3 ⊢
               have BK418 := n0
               have BK419 := n1
               have BK428 := n2
               have HB := n3
               clear n0 n1 n2 n3
               replace BK418 := aM_ (blk_drew BK418.out)
               replace BK419 := aM_ (blk_drew BK419.out)
               replace BK428 := aM_ (blk_drew BK428.out)
               replace HB := aM_ (below_drew1 HB.out)
               have p430 : 0 ≤ (x74_3 : Int) := of_decide_eq_true (by first | (with_reducible assumption) | assumption)
               have q430 : x74_3 < (l0_0.length : Int) := of_decide_eq_true (by first | (with_reducible assumption) | assumption)
               obtain ⟨ad430,e430,hx430_0⟩ := Kd.at_int HR0_0.out x74_3 p430 q430
               have hw430_0 := hx430_0
               cases e430
               replace hx430_0 := cB_ HB.out hx430_0
               replace p430 := eq_true p430
               replace q430 := eq_true q430
               refine start_ (n := 13) (S := fun w' => w'.cell? ⟨gb428,0,none⟩ = some (.int .i64 ((rd_T94 l1_1 x74_3).f0)) ∧ w'.cell? ⟨gb428,1,none⟩ = some (.slice A427_1 ((rd_T94 l1_1 x74_3).f1).length c427_1) ∧ w'.cell? ⟨gb428,2,none⟩ = some (.bool ((rd_T94 l1_1 x74_3).f2)) ∧ w'.cell? ⟨gb418,0,none⟩ = some (.slice (some ad430) l0_0.length c0_0) ∧ w'.cell? ⟨gb418,1,none⟩ = some (.slice A0_1 l0_1.length c0_1) ∧ w'.cell? (ad430.add (x74_3).toNat) = some (.int .i64 (rd l0_0 x74_3))) (ds := []) (mk_ 13 0) (by kernel_rfl) rfl rfl ⟨(blk_cell BK428.out 0).trans rfl,(blk_cell BK428.out 1).trans rfl,(blk_cell BK428.out 2).trans rfl,(blk_cell BK418.out 0).trans rfl,(blk_cell BK418.out 1).trans rfl,(cB_ HB.out hw430_0 :)⟩ (fun hHeld => ?_);refine with_tabW impl_SourceOk.tab12 impl_SourceOk.bits12 (fun HT_ HW_ => ?_)
               generalize w73.drew = w74 at BK418 BK419 BK428 HB hx430_0 hHeld ⊢
               refine tK6_ 0 79 (mk_ 13 1) ?_
               refine oN_ 1 80 (mk_ 13 3) (fun K hK => ?_)
               refine gO_ Try.func54 #[.agg #[.int .i64 ((rd_T94 l1_1 x74_3).f0),.slice A427_1 ((rd_T94 l1_1 x74_3).f1).length c427_1,.bool ((rd_T94 l1_1 x74_3).f2)]] ?_
               with_reducible refine (impl_ChanOk.calls ((rd_T94 l1_1 x74_3).f0) _ _ ((rd_T94 l1_1 x74_3).f1) ((rd_T94 l1_1 x74_3).f2) true _ ?side1 ?side2 A58.out).mono ?_
               (case side1 => exact cS_ (Kd.C_below HR427_1.out HB.out))
               (case side2 => exact HC427_1.out)
               rintro e w75 ⟨rfl,hb⟩
               refine ⟨_,rfl,?_⟩
               replace BK418 := aM_ (nB_ BK418.out hb)
               replace BK419 := aM_ (nB_ BK419.out hb)
               replace BK428 := aM_ (nB_ BK428.out hb)
               replace HB := aM_ (sT_ HB.out hb)
               (try clear hb)
               (try clear hb2)
               (try clear hk)
               (try clear hi)
               refine kO_ hK (some 80) ⟨(blk_cell BK428.out 0).trans rfl,(blk_cell BK428.out 1).trans rfl,(blk_cell BK428.out 2).trans rfl,(blk_cell BK418.out 0).trans rfl,(blk_cell BK418.out 1).trans rfl,(cB_ HB.out hw430_0 :)⟩ (fun hHeld => ?_)
               clear hK K
               refine pU_ 2 81 (mk_ 13 7) ?_
               refine pU_ 3 82 (mk_ 13 15) ?_
               refine pU_ 4 83 (mk_ 13 31) ?_
               refine pU_ 6 85 (mk_ 13 95) ?_
               refine pU_ 8 87 (mk_ 13 351) ?_
               refine tK6_ 5 84 (mk_ 13 383) ?_
               refine tK6_ 7 86 (mk_ 13 511) ?_
               refine pU_ 9 88 (mk_ 13 1023) ?_
               refine tK6_ 10 89 (mk_ 13 2047) ?_
               refine pU_ 11 90 (mk_ 13 4095) ?_
               refine pU_ 12 91 (mk_ 13 8191) ?_
               refine done_ (done_of HT_.out (by kernel_rfl)) ?_
               try go_wp2
               go_ret
               exact fI_ HB.out
             ·rw [if_neg c60] at H
              exact absurd H (by simp)
            ·replace c59 := Bool.eq_false_iff.mpr c59
             subst c59
             have H1 : (some false) = some r := by rw [if_neg (show ¬ (false = true) by decide)] at H;exact H
             clear H
             have H := H1
             clear H1
             obtain rfl := Option.some.inj H
             have p427 : 0 ≤ (x74_3 : Int) := of_decide_eq_true (by first | (with_reducible assumption) | assumption)
             have q427 : x74_3 < (l1_1.length : Int) := of_decide_eq_true (by first | (with_reducible assumption) | assumption)
             obtain ⟨ad427,A427_1,c427_1,e427,hx427_0,hx427_1,hx427_2,hl427_1,hi427_1⟩ := at_T94 HR1_1.out x74_3 p427 q427
             cases e427
             replace hx427_0 := cB_ HB.out hx427_0
             replace hx427_1 := cB_ HB.out hx427_1
             replace hx427_2 := cB_ HB.out hx427_2
             have HR427_1 := aM_ hi427_1
             have HC427_1 := aM_ hl427_1
             clear hi427_1 hl427_1
             replace p427 := eq_true p427
             replace q427 := eq_true q427
             try go_wp2_with (first | ((with_reducible refine gate_dst (N := 8) rfl ?_);(try (refine gate_guard (by rfl) ?_;dsimp only));refine bX_ 8 (cs := #[.int .i64 0,.slice none 0 0,.bool false]) (t := 94) ?_;intro gb428 hg w76 hbox hb;have BK428 := aM_ (hbox);have GE428 := aM_ (sZ_ hg HB.out);have NB418_428 := aM_ (nL_ hg BK418.out);have NB428_418 := aM_ (nG_ hg BK418.out);have NB419_428 := aM_ (nL_ hg BK419.out);have NB428_419 := aM_ (nG_ hg BK419.out);replace BK418 := aM_ (nB_ BK418.out hb);replace BK419 := aM_ (nB_ BK419.out hb);replace HB := aM_ (sT_ HB.out hb);clear hb hbox hg;have hnb77 := NB428_418.out;have hnc77 := NB418_428.out;have hnb78 := NB428_419.out;have hnc78 := NB419_428.out;have z_79 := bR3_ BK428.out))
             have n0 : Aside0 ((((w76.setCell ⟨gb428,0,none⟩ (.int .i64 ((rd_T94 l1_1 x74_3).f0))).setCell ⟨gb428,1,none⟩ (.slice A427_1 ((rd_T94 l1_1 x74_3).f1).length c427_1)).setCell ⟨gb428,2,none⟩ (.bool ((rd_T94 l1_1 x74_3).f2))).heap[gb418]? = some (.cells #[.slice A0_0 l0_0.length c0_0,.slice A0_1 l0_1.length c0_1] 44 (0,0))) := ⟨rWf_ BK418.out⟩
             have n1 : Aside0 ((((w76.setCell ⟨gb428,0,none⟩ (.int .i64 ((rd_T94 l1_1 x74_3).f0))).setCell ⟨gb428,1,none⟩ (.slice A427_1 ((rd_T94 l1_1 x74_3).f1).length c427_1)).setCell ⟨gb428,2,none⟩ (.bool ((rd_T94 l1_1 x74_3).f2))).heap[gb419]? = some (.cells #[.slice A1_0 l1_0.length c1_0,.slice (some ad427) l1_1.length c1_1,.slice A1_2 l1_2.length c1_2] 28 (0,0))) := ⟨rWf_ BK419.out⟩
             have n2 : Aside0 ((((w76.setCell ⟨gb428,0,none⟩ (.int .i64 ((rd_T94 l1_1 x74_3).f0))).setCell ⟨gb428,1,none⟩ (.slice A427_1 ((rd_T94 l1_1 x74_3).f1).length c427_1)).setCell ⟨gb428,2,none⟩ (.bool ((rd_T94 l1_1 x74_3).f2))).heap[gb428]? = some (.cells #[.int .i64 ((rd_T94 l1_1 x74_3).f0),.slice A427_1 ((rd_T94 l1_1 x74_3).f1).length c427_1,.bool ((rd_T94 l1_1 x74_3).f2)] 94 (0,0))) := ⟨by (with_reducible repeat (first | refine bN_ ?_ _ | refine bD_ ?_ | refine bA_ ?_ _));refine blk_put (cs := #[.int .i64 ((rd_T94 l1_1 x74_3).f0),.slice A427_1 ((rd_T94 l1_1 x74_3).f1).length c427_1,.bool false]) ?_ 2 _ rfl;refine blk_put (cs := #[.int .i64 ((rd_T94 l1_1 x74_3).f0),.slice none 0 0,.bool false]) ?_ 1 _ rfl;refine blk_put (cs := #[.int .i64 0,.slice none 0 0,.bool false]) ?_ 0 _ rfl;(with_reducible repeat (first | refine bN_ ?_ _ | refine bD_ ?_ | refine bA_ ?_ _));exact BK428.out⟩
             have n3 : Aside0 (Below w.heap.size w (((w76.setCell ⟨gb428,0,none⟩ (.int .i64 ((rd_T94 l1_1 x74_3).f0))).setCell ⟨gb428,1,none⟩ (.slice A427_1 ((rd_T94 l1_1 x74_3).f1).length c427_1)).setCell ⟨gb428,2,none⟩ (.bool ((rd_T94 l1_1 x74_3).f2)))) := ⟨gW_ HB.out⟩
             (try clear BK418)
             (try clear BK419)
             (try clear BK428)
             (try clear HB)
             generalize (((w76.setCell ⟨gb428,0,none⟩ (.int .i64 ((rd_T94 l1_1 x74_3).f0))).setCell ⟨gb428,1,none⟩ (.slice A427_1 ((rd_T94 l1_1 x74_3).f1).length c427_1)).setCell ⟨gb428,2,none⟩ (.bool ((rd_T94 l1_1 x74_3).f2))) = w80 at n0 n1 n2 n3 ⊢
             have BK418 := n0
             have BK419 := n1
             have BK428 := n2
             have HB := n3
             clear n0 n1 n2 n3
             replace BK418 := aM_ (blk_drew BK418.out)
             replace BK419 := aM_ (blk_drew BK419.out)
             replace BK428 := aM_ (blk_drew BK428.out)
             replace HB := aM_ (below_drew1 HB.out)
             refine start_ (n := 13) (S := fun w' => w'.cell? ⟨gb428,0,none⟩ = some (.int .i64 ((rd_T94 l1_1 x74_3).f0)) ∧ w'.cell? ⟨gb428,1,none⟩ = some (.slice A427_1 ((rd_T94 l1_1 x74_3).f1).length c427_1) ∧ w'.cell? ⟨gb428,2,none⟩ = some (.bool ((rd_T94 l1_1 x74_3).f2))) (ds := []) (mk_ 13 0) (by kernel_rfl) rfl rfl (bC3_ BK428.out) (fun hHeld => ?_);refine with_tabW impl_SourceOk.tab12 impl_SourceOk.bits12 (fun HT_ HW_ => ?_)
             generalize w80.drew = w81 at BK418 BK419 BK428 HB hHeld ⊢
             refine tK3_ 0 79 (mk_ 13 1) ?_
             refine oN_ 1 80 (mk_ 13 3) (fun K hK => ?_)
             refine gO_ Try.func54 #[.agg #[.int .i64 ((rd_T94 l1_1 x74_3).f0),.slice A427_1 ((rd_T94 l1_1 x74_3).f1).length c427_1,.bool ((rd_T94 l1_1 x74_3).f2)]] ?_
             with_reducible refine (impl_ChanOk.calls ((rd_T94 l1_1 x74_3).f0) _ _ ((rd_T94 l1_1 x74_3).f1) ((rd_T94 l1_1 x74_3).f2) false _ ?side1 ?side2 A58.out).mono ?_
             (case side1 => exact cS_ (Kd.C_below HR427_1.out HB.out))
             (case side2 => exact HC427_1.out)
             rintro e w82 ⟨rfl,hb⟩
             refine ⟨_,rfl,?_⟩
             replace BK418 := aM_ (nB_ BK418.out hb)
             replace BK419 := aM_ (nB_ BK419.out hb)
             replace BK428 := aM_ (nB_ BK428.out hb)
             replace HB := aM_ (sT_ HB.out hb)
             (try clear hb)
             (try clear hb2)
             (try clear hk)
             (try clear hi)
             refine kO_ hK (some 80) (bC3_ BK428.out) (fun hHeld => ?_)
             clear hK K
             refine pU_ 2 81 (mk_ 13 7) ?_
             refine pU_ 3 82 (mk_ 13 15) ?_
             refine pX_ 4 83 (mk_ 13 31) ?_
             refine pX_ 5 84 (mk_ 13 63) ?_
             refine pX_ 6 85 (mk_ 13 127) ?_
             refine pX_ 7 86 (mk_ 13 255) ?_
             refine pX_ 8 87 (mk_ 13 511) ?_
             refine pX_ 9 88 (mk_ 13 1023) ?_
             refine pX_ 10 89 (mk_ 13 2047) ?_
             refine pX_ 11 90 (mk_ 13 4095) ?_
             refine pU_ 12 91 (mk_ 13 8191) ?_
             refine done_ (done_of HT_.out (by kernel_rfl)) ?_
             try go_wp2
             go_ret
             exact fI_ HB.out
           ·rw [if_neg c57] at H
            exact absurd H (by simp)
          ·rw [if_neg c56] at H
           exact absurd H (by simp)
         ·rw [if_neg c55] at H
          have c55b0 : decide (x74_3 < (l1_1.length : Int)) = false := decide_eq_false c55
          clear c55
          obtain rfl := Option.some.inj H
          go_wp2
          go_ret
          exact fI_ HB.out
end Go.Proofs.Ytobachfngmpeiaa.PFnExactStuck
