/- Part of the proof of FnExactAble. -/
import Derived.Test.YtobachfngmpeiaaZFnExactAblea22
import Derived.Test.YtobachfngmpeiaaZFnExactAbles
namespace Go.Proofs.Ytobachfngmpeiaa.PFnExactAble
open Go.RowKit Go.Proofs.YtobachfngmpeiaaW.PrintWords Go.Proofs.YtobachfngmpeiaaW.PrintLast Go.Proofs.YtobachfngmpeiaaW.PrintMore
attribute [local go_sem] max2_int min2_int max_two min_two max_three min_three max_four min_four   -- for this text's walks alone
set_option linter.unusedVariables false
set_option linter.unusedSimpArgs false
mutual
def impl_SourceOk.j0 : Nat → Bool → List Int → List (List (S192)) → List (S107) → List (S94) → List (S35) → Option (Bool)
  | 0,_,_,_,_,_,_ => none
  | k + 1,x38,x425000,x425001,x426000,x426001,x426002 => if x38 = true then (some false) else (impl_SourceOk.l0 k x426000 (x426000.length : Int) 0 x425000 x425001 x426000 x426001 x426002)
def impl_SourceOk.l0 : Nat → List (S107) → Int → Int → List Int → List (List (S192)) → List (S107) → List (S94) → List (S35) → Option (Bool)
  | 0,_,_,_,_,_,_,_,_ => none
  | k + 1,x40,x41,x42,x425000,x425001,x426000,x426001,x426002 => if x42 < x41 then (if 0 ≤ x42 then (if x42 < (x40.length : Int) then (if (((rd_T107 x40 x42).f1).length : Int) = 4 then ((impl_within.f ((rd_T107 x40 x42).f2) 0 2).bind fun t430 => (if t430 = true then (if x42 < (x425001.length : Int) then ((impl_within.f ((rd_T107 x40 x42).f0) 0 (wrap64 (((rd_L4 x425001 x42).length : Int) - 1))).bind fun t432 => (impl_SourceOk.j2 k x40 x41 x42 (!t432) x425000 x425001 x426000 x426001 x426002)) else (none)) else (impl_SourceOk.j2 k x40 x41 x42 true x425000 x425001 x426000 x426001 x426002))) else (impl_SourceOk.j2 k x40 x41 x42 true x425000 x425001 x426000 x426001 x426002)) else (none)) else (none)) else (impl_SourceOk.l1 k x426001 (x426001.length : Int) 0 x425000 x425001)
def impl_SourceOk.j2 : Nat → List (S107) → Int → Int → Bool → List Int → List (List (S192)) → List (S107) → List (S94) → List (S35) → Option (Bool)
  | 0,_,_,_,_,_,_,_,_,_ => none
  | k + 1,x40,x41,x42,x69,x425000,x425001,x426000,x426001,x426002 => if x69 = true then (some false) else (impl_SourceOk.l0 k x40 x41 (wrap64 (x42 + 1)) x425000 x425001 x426000 x426001 x426002)
def impl_SourceOk.l1 : Nat → List (S94) → Int → Int → List Int → List (List (S192)) → Option (Bool)
  | 0,_,_,_,_,_ => none
  | k + 1,x72,x73,x74,x425000,x425001 => if x74 < x73 then (if 0 ≤ x74 then (if x74 < (x72.length : Int) then ((impl_ChanOk.f ((rd_T94 x72 x74).f0) ((rd_T94 x72 x74).f1) ((rd_T94 x72 x74).f2)).bind fun t435 => (if t435 = true then (if x74 < (x425000.length : Int) then (if ((rd_T94 x72 x74).f0) = (rd x425000 x74) then (impl_SourceOk.l1 k x72 x73 (wrap64 (x74 + 1)) x425000 x425001) else (some false)) else (none)) else (some false))) else (none)) else (none)) else (some true)
end
def impl_SourceOk.f (k : Nat) (l0_0 : List Int) (l0_1 : List (List (S192))) (l1_0 : List (S107)) (l1_1 : List (S94)) (l1_2 : List (S35)) : Option (Bool) := (impl_ProgOk.f k l0_0 l0_1).bind fun t426 => (if t426 = true then (if (l1_0.length : Int) = (l0_1.length : Int) then (if (l1_1.length : Int) = (l0_0.length : Int) then ((impl_notesOk.f k l1_2 (l1_0.length : Int)).bind fun t427 => (impl_SourceOk.j0 k (!t427) l0_0 l0_1 l1_0 l1_1 l1_2)) else (impl_SourceOk.j0 k true l0_0 l0_1 l1_0 l1_1 l1_2)) else (impl_SourceOk.j0 k true l0_0 l0_1 l1_0 l1_1 l1_2)) else (impl_SourceOk.j0 k true l0_0 l0_1 l1_0 l1_1 l1_2))
def impl_SourceOk.T6 : Bool × List (List Nat × List Nat) := (true,[([],[]),([0],[0]),([1],[1]),([2],[2]),([3],[3]),([4],[4]),([5,4],[4,5]),([6,4,4],[4,6]),([7,4],[4,7]),([4,8],[4,8]),([9,7],[9]),([10],[10]),([11,10],[10,11]),([10],[10]),([13,10],[10,13]),([10],[10]),([14,15,10],[10,14,15]),([16,10],[10,16]),([17,10],[10,17]),([18,10],[10,18]),([12,19,10,10],[10,12,19]),([20,10],[10,20]),([10,21],[10,21])])
def impl_SourceOk.B6 : List Nat := [0,1,3,7,15,31,63,127,255,511,1023,2047,4095,2047,10239,2047,59391,124927,255999,518143,1048575,2097151,4194303]
theorem impl_SourceOk.tab6 : rtab .any (opsOf Try.f98 6) = impl_SourceOk.T6 := by kernel_rfl
theorem impl_SourceOk.bits6 : waitsOk impl_SourceOk.T6.2 impl_SourceOk.B6 = true := by kernel_rfl
def impl_SourceOk.T12 : Bool × List (List Nat × List Nat) := (true,[([],[]),([0],[0]),([1],[1]),([2,1],[2]),([3],[3]),([4,3],[3,4]),([3],[3]),([6,3],[3,6]),([3],[3]),([7,8,3],[3,7,8]),([9,3],[3,9]),([5,10,3],[3,5,10]),([3,11],[3,11])])
def impl_SourceOk.B12 : List Nat := [0,1,3,7,15,31,15,79,15,463,975,2047,4095]
theorem impl_SourceOk.tab12 : rtab .any (opsOf Try.f98 12) = impl_SourceOk.T12 := by kernel_rfl
theorem impl_SourceOk.bits12 : waitsOk impl_SourceOk.T12.2 impl_SourceOk.B12 = true := by kernel_rfl
set_option maxHeartbeats 8000000 in
set_option maxRecDepth 100000 in
theorem impl_SourceOk.calls (k : Nat) (A0_0 : Option Addr) (c0_0 : Nat) (l0_0 : List Int) (A0_1 : Option Addr) (c0_1 : Nat) (l0_1 : List (List (S192))) (A1_0 : Option Addr) (c1_0 : Nat) (l1_0 : List (S107)) (A1_1 : Option Addr) (c1_1 : Nat) (l1_1 : List (S94)) (A1_2 : Option Addr) (c1_2 : Nat) (l1_2 : List (S35)) (r : Bool) (w : World) (hr0_0 : Kd.C (Kd.int .i64) w A0_0 l0_0.length l0_0) (hc0_0 : l0_0.length ≤ c0_0) (hr0_1 : Kd.C (Kd.slice 192 k192) w A0_1 l0_1.length l0_1) (hc0_1 : l0_1.length ≤ c0_1) (hr1_0 : Kd.C k107 w A1_0 l1_0.length l1_0) (hc1_0 : l1_0.length ≤ c1_0) (hr1_1 : Kd.C k94 w A1_1 l1_1.length l1_1) (hc1_1 : l1_1.length ≤ c1_1) (hr1_2 : Kd.C k35 w A1_2 l1_2.length l1_2) (hc1_2 : l1_2.length ≤ c1_2) (h : impl_SourceOk.f k l0_0 l0_1 l1_0 l1_1 l1_2 = some r) :
  Calls Try.prog 98 #[.agg #[.slice A0_0 l0_0.length c0_0,.slice A0_1 l0_1.length c0_1],.agg #[.slice A1_0 l1_0.length c1_0,.slice A1_1 l1_1.length c1_1,.slice A1_2 l1_2.length c1_2]] w fun e w' => e = .returned (.bool r) ∧ Below w.heap.size w w' := by
 have hu44 := Try.underlying44
 have hu28 := Try.underlying28
 have hu107 := Try.underlying107
 have hu94 := Try.underlying94
 have HR0_0 := aM_ hr0_0
 have HC0_0 := aM_ hc0_0
 clear hr0_0 hc0_0
 have HR0_1 := aM_ hr0_1
 have HC0_1 := aM_ hc0_1
 clear hr0_1 hc0_1
 have HR1_0 := aM_ hr1_0
 have HC1_0 := aM_ hc1_0
 clear hr1_0 hc1_0
 have HR1_1 := aM_ hr1_1
 have HC1_1 := aM_ hc1_1
 clear hr1_1 hc1_1
 have HR1_2 := aM_ hr1_2
 have HC1_2 := aM_ hc1_2
 clear hr1_2 hc1_2
 have HB := aM_ (Below.refl w.heap.size w)
 have H : ((impl_ProgOk.f k l0_0 l0_1).bind fun t426 => (if t426 = true then (if (l1_0.length : Int) = (l0_1.length : Int) then (if (l1_1.length : Int) = (l0_0.length : Int) then ((impl_notesOk.f k l1_2 (l1_0.length : Int)).bind fun t427 => (impl_SourceOk.j0 k (!t427) l0_0 l0_1 l1_0 l1_1 l1_2)) else (impl_SourceOk.j0 k true l0_0 l0_1 l1_0 l1_1 l1_2)) else (impl_SourceOk.j0 k true l0_0 l0_1 l1_0 l1_1 l1_2)) else (impl_SourceOk.j0 k true l0_0 l0_1 l1_0 l1_1 l1_2))) = some r := h
 clear h
 have HC3 := aM_ H
 clear H
 go_enter Try.func98,Try.ntmps98
 go_upto_region 1 with (first | ((with_reducible refine gate_dst (N := 2) rfl ?_);(try (refine gate_guard (by rfl) ?_;dsimp only));refine bX_ 2 (cs := #[.slice A0_0 l0_0.length c0_0,.slice A0_1 l0_1.length c0_1]) (t := 44) ?_;intro gb424 hg w4 hbox hb;have BK424 := aM_ (hbox);have GE424 := aM_ (sZ_ hg HB.out);replace HB := aM_ (sT_ HB.out hb);clear hb hbox hg) | ((with_reducible refine gate_dst (N := 3) rfl ?_);(try (refine gate_guard (by rfl) ?_;dsimp only));refine bX_ 3 (cs := #[.slice A1_0 l1_0.length c1_0,.slice A1_1 l1_1.length c1_1,.slice A1_2 l1_2.length c1_2]) (t := 28) ?_;intro gb425 hg w5 hbox hb;have BK425 := aM_ (hbox);have GE425 := aM_ (sZ_ hg HB.out);have NB424_425 := aM_ (nL_ hg BK424.out);have NB425_424 := aM_ (nG_ hg BK424.out);replace BK424 := aM_ (nB_ BK424.out hb);replace HB := aM_ (sT_ HB.out hb);clear hb hbox hg))
 (try simp only [Act.put,List.setIfInBounds_toArray,List.set_cons_zero,List.set_cons_succ])
 go_cut [38] (fun v38 wc => ∃ (kq : Nat) (x38_2 : Bool),v38 = .bool x38_2 ∧ Aside0 (impl_SourceOk.j0 kq x38_2 l0_0 l0_1 l1_0 l1_1 l1_2 = some r) ∧ Aside0 (kq ≤ k) ∧ Aside0 (wc.heap[gb424]? = some (.cells #[(.slice A0_0 l0_0.length c0_0),(.slice A0_1 l0_1.length c0_1)] 44 (0,0))) ∧ Aside0 (wc.heap[gb425]? = some (.cells #[(.slice A1_0 l1_0.length c1_0),(.slice A1_1 l1_1.length c1_1),(.slice A1_2 l1_2.length c1_2)] 28 (0,0))) ∧ Aside0 (Below w.heap.size w wc))
 case first =>
  have H := HC3.out
  clear HC3
  replace H := Option.bind_eq_some_iff.mp H
  obtain ⟨t426,A60,H⟩ := H
  replace H : (if t426 = true then (if (l1_0.length : Int) = (l0_1.length : Int) then (if (l1_1.length : Int) = (l0_0.length : Int) then ((impl_notesOk.f k l1_2 (l1_0.length : Int)).bind fun t427 => (impl_SourceOk.j0 k (!t427) l0_0 l0_1 l1_0 l1_1 l1_2)) else (impl_SourceOk.j0 k true l0_0 l0_1 l1_0 l1_1 l1_2)) else (impl_SourceOk.j0 k true l0_0 l0_1 l1_0 l1_1 l1_2)) else (impl_SourceOk.j0 k true l0_0 l0_1 l1_0 l1_1 l1_2)) = some r := H
  have A6 := aM_ A60
  clear A60
  by_cases c7 : t426 = true
  ·subst c7
   have H1 : (if (l1_0.length : Int) = (l0_1.length : Int) then (if (l1_1.length : Int) = (l0_0.length : Int) then ((impl_notesOk.f k l1_2 (l1_0.length : Int)).bind fun t427 => (impl_SourceOk.j0 k (!t427) l0_0 l0_1 l1_0 l1_1 l1_2)) else (impl_SourceOk.j0 k true l0_0 l0_1 l1_0 l1_1 l1_2)) else (impl_SourceOk.j0 k true l0_0 l0_1 l1_0 l1_1 l1_2)) = some r := by rw [if_pos rfl] at H;exact H
   clear H
   have H := H1
   clear H1
   by_cases c8 : (l1_0.length : Int) = (l0_1.length : Int)
   ·rw [if_pos c8] at H
    have c8b0 : ((l1_0.length : Int) == (l0_1.length : Int)) = true := beq_iff_eq.mpr c8
    have c8b1 : ((l1_0.length : Int) != (l0_1.length : Int)) = false := bne_eq_false_iff_eq.mpr c8
    have c8b2 : (l1_0.length == l0_1.length) = true := by first | simpa using c8 | (simp at c8 ⊢;omega)
    clear c8
    (first | rw [c8b0] | (simp only [i64_w,i32_w];rw [c8b0]) | skip)
    by_cases c9 : (l1_1.length : Int) = (l0_0.length : Int)
    ·rw [if_pos c9] at H
     have c9b0 : ((l1_1.length : Int) == (l0_0.length : Int)) = true := beq_iff_eq.mpr c9
     have c9b1 : ((l1_1.length : Int) != (l0_0.length : Int)) = false := bne_eq_false_iff_eq.mpr c9
     have c9b2 : (l1_1.length == l0_0.length) = true := by first | simpa using c9 | (simp at c9 ⊢;omega)
     clear c9
     replace H := Option.bind_eq_some_iff.mp H
     obtain ⟨t427,A100,H⟩ := H
     replace H : (impl_SourceOk.j0 k (!t427) l0_0 l0_1 l1_0 l1_1 l1_2) = some r := H
     have A10 := aM_ A100
     clear A100
     have H' := aM_ H
     clear H
     have hnb11 := NB424_425.out
     have hnc11 := NB425_424.out
     have z_12 := bR2_ BK424.out
     go_wp2_with (first | (refine gL_ (some 10) Try.func63 #[.agg #[.slice A0_0 l0_0.length c0_0,.slice A0_1 l0_1.length c0_1]] ?_;(with_reducible refine (impl_ProgOk.calls k _ _ l0_0 _ _ l0_1 true _ ?side1 HC0_0.out ?side3 HC0_1.out A6.out).mono ?_);(case side1 => exact cS_ (Kd.C_below HR0_0.out HB.out));(case side3 => exact cS_ (Kd.C_below HR0_1.out HB.out));rintro e w13 ⟨rfl,hb⟩;refine ⟨_,rfl,?_⟩;replace BK424 := aM_ (nB_ BK424.out hb);replace BK425 := aM_ (nB_ BK425.out hb);replace HB := aM_ (sT_ HB.out hb);have z_14 := bR3_ BK425.out;have z_15 := bR2_ BK424.out) | (go_at_call 135;(with_reducible refine (impl_notesOk.calls k _ _ l1_2 (l1_0.length : Int) t427 _ ?side1 HC1_2.out A10.out).mono ?_);(case side1 => exact cS_ (Kd.C_below HR1_2.out HB.out));rintro e w16 ⟨rfl,hb⟩;replace BK424 := aM_ (nB_ BK424.out hb);replace BK425 := aM_ (nB_ BK425.out hb);replace HB := aM_ (sT_ HB.out hb)))
     go_meet
     case rel => exact ⟨_,(!t427),(by first | rfl | (simp;done) | (simp [*];done)),H',⟨by first | omega | exact Nat.le_refl _⟩,⟨rW_ BK424.out⟩,⟨rW_ BK425.out⟩,⟨gW_ HB.out⟩⟩
    ·rw [if_neg c9] at H
     have c9b0 : ((l1_1.length : Int) == (l0_0.length : Int)) = false := beq_eq_false_iff_ne.mpr c9
     have c9b1 : ((l1_1.length : Int) != (l0_0.length : Int)) = true := bne_iff_ne.mpr c9
     have c9b2 : (l1_1.length == l0_0.length) = false := by first | simpa using c9 | (simp at c9 ⊢;omega)
     have H' := aM_ H
     clear H
     have hnb17 := NB424_425.out
     have hnc17 := NB425_424.out
     have z_18 := bR2_ BK424.out
     go_wp2_with (first | (refine gL_ (some 10) Try.func63 #[.agg #[.slice A0_0 l0_0.length c0_0,.slice A0_1 l0_1.length c0_1]] ?_;(with_reducible refine (impl_ProgOk.calls k _ _ l0_0 _ _ l0_1 true _ ?side1 HC0_0.out ?side3 HC0_1.out A6.out).mono ?_);(case side1 => exact cS_ (Kd.C_below HR0_0.out HB.out));(case side3 => exact cS_ (Kd.C_below HR0_1.out HB.out));rintro e w19 ⟨rfl,hb⟩;refine ⟨_,rfl,?_⟩;replace BK424 := aM_ (nB_ BK424.out hb);replace BK425 := aM_ (nB_ BK425.out hb);replace HB := aM_ (sT_ HB.out hb);have z_20 := bR3_ BK425.out;have z_21 := bR2_ BK424.out))
     go_meet
     case rel => exact ⟨_,(true),(by first | rfl | (simp;done) | (simp [*];done)),H',⟨by first | omega | exact Nat.le_refl _⟩,⟨rW_ BK424.out⟩,⟨rW_ BK425.out⟩,⟨gW_ HB.out⟩⟩
   ·rw [if_neg c8] at H
    have c8b0 : ((l1_0.length : Int) == (l0_1.length : Int)) = false := beq_eq_false_iff_ne.mpr c8
    have c8b1 : ((l1_0.length : Int) != (l0_1.length : Int)) = true := bne_iff_ne.mpr c8
    have c8b2 : (l1_0.length == l0_1.length) = false := by first | simpa using c8 | (simp at c8 ⊢;omega)
    (first | rw [c8b0] | (simp only [i64_w,i32_w];rw [c8b0]) | skip)
    have H' := aM_ H
    clear H
    have hnb22 := NB424_425.out
    have hnc22 := NB425_424.out
    have z_23 := bR2_ BK424.out
    go_wp2_with (first | (refine gL_ (some 10) Try.func63 #[.agg #[.slice A0_0 l0_0.length c0_0,.slice A0_1 l0_1.length c0_1]] ?_;(with_reducible refine (impl_ProgOk.calls k _ _ l0_0 _ _ l0_1 true _ ?side1 HC0_0.out ?side3 HC0_1.out A6.out).mono ?_);(case side1 => exact cS_ (Kd.C_below HR0_0.out HB.out));(case side3 => exact cS_ (Kd.C_below HR0_1.out HB.out));rintro e w24 ⟨rfl,hb⟩;refine ⟨_,rfl,?_⟩;replace BK424 := aM_ (nB_ BK424.out hb);replace BK425 := aM_ (nB_ BK425.out hb);replace HB := aM_ (sT_ HB.out hb);have z_25 := bR3_ BK425.out;have z_26 := bR2_ BK424.out))
    go_meet
    case rel => exact ⟨_,(true),(by first | rfl | (simp;done) | (simp [*];done)),H',⟨by first | omega | exact Nat.le_refl _⟩,⟨rW_ BK424.out⟩,⟨rW_ BK425.out⟩,⟨gW_ HB.out⟩⟩
  ·replace c7 := Bool.eq_false_iff.mpr c7
   subst c7
   have H1 : (impl_SourceOk.j0 k true l0_0 l0_1 l1_0 l1_1 l1_2) = some r := by rw [if_neg (show ¬ (false = true) by decide)] at H;exact H
   clear H
   have H := H1
   clear H1
   have H' := aM_ H
   clear H
   have hnb27 := NB424_425.out
   have hnc27 := NB425_424.out
   have z_28 := bR2_ BK424.out
   go_wp2_with (first | (refine gL_ (some 10) Try.func63 #[.agg #[.slice A0_0 l0_0.length c0_0,.slice A0_1 l0_1.length c0_1]] ?_;(with_reducible refine (impl_ProgOk.calls k _ _ l0_0 _ _ l0_1 false _ ?side1 HC0_0.out ?side3 HC0_1.out A6.out).mono ?_);(case side1 => exact cS_ (Kd.C_below HR0_0.out HB.out));(case side3 => exact cS_ (Kd.C_below HR0_1.out HB.out));rintro e w29 ⟨rfl,hb⟩;refine ⟨_,rfl,?_⟩;replace BK424 := aM_ (nB_ BK424.out hb);replace BK425 := aM_ (nB_ BK425.out hb);replace HB := aM_ (sT_ HB.out hb)))
   go_meet
   case rel => exact ⟨_,(true),(by first | rfl | (simp;done) | (simp [*];done)),H',⟨by first | omega | exact Nat.le_refl _⟩,⟨rW_ BK424.out⟩,⟨rW_ BK425.out⟩,⟨gW_ HB.out⟩⟩
 case rest =>
  clear HC3
  (try clear c1);(try clear c2);(try clear p2);(try clear c6);(try clear c7);(try clear c8);(try clear c8b0);(try clear c8b1);(try clear c8b2);(try clear c9);(try clear c9b0);(try clear c9b1);(try clear c9b2);(try clear c11);(try clear c17);(try clear c22);(try clear c27);(try clear z_12);(try clear z_14);(try clear z_15);(try clear z_18);(try clear z_20);(try clear z_21);(try clear z_23);(try clear z_25);(try clear z_26);(try clear z_28)
  obtain ⟨kq,x38_2,rfl,HA,HJ2,BK424,BK425,HB⟩ := hcut
  cases kq with
  | zero => exact absurd HA.out (by simp [impl_SourceOk.j0])
  | succ kj2 =>
   have H := HA.out
   clear HA
   simp only [impl_SourceOk.j0] at H
   by_cases c30 : x38_2 = true
   ·subst c30
    have H1 : (some false) = some r := by rw [if_pos rfl] at H;exact H
    clear H
    have H := H1
    clear H1
    obtain rfl := sJ_ H
    go_wp2
    go_ret
    exact fI_ HB.out
   ·replace c30 := Bool.eq_false_iff.mpr c30
    subst c30
    have H1 : (impl_SourceOk.l0 kj2 l1_0 (l1_0.length : Int) 0 l0_0 l0_1 l1_0 l1_1 l1_2) = some r := by rw [if_neg (show ¬ (false = true) by decide)] at H;exact H
    clear H
    have H := H1
    clear H1
    have H' := aM_ H
    clear H
    have hnb31 := NB425_424.out
    have hnc31 := NB424_425.out
    have z_32 := bR3_ BK425.out
    go_wp2
    go_loopg [42] kj2 (fun kq v42 w' => ∃ (x42_2 : Int),v42 = .int .i64 x42_2 ∧ Aside0 (impl_SourceOk.l0 kq l1_0 (l1_0.length : Int) x42_2 l0_0 l0_1 l1_0 l1_1 l1_2 = some r) ∧ Aside0 (kq ≤ kj2) ∧ Aside0 (w'.heap[gb424]? = some (.cells #[(.slice A0_0 l0_0.length c0_0),(.slice A0_1 l0_1.length c0_1)] 44 (0,0))) ∧ Aside0 (w'.heap[gb425]? = some (.cells #[(.slice A1_0 l1_0.length c1_0),(.slice A1_1 l1_1.length c1_1),(.slice A1_2 l1_2.length c1_2)] 28 (0,0))) ∧ Aside0 (Below w.heap.size w w'))
    case atStart => exact ⟨(0),(by first | rfl | (simp;done) | (simp [*];done)),H',⟨Nat.le_refl _⟩,⟨rW_ BK424.out⟩,⟨rW_ BK425.out⟩,⟨gW_ HB.out⟩⟩
    case round =>
     clear H'
     (try clear c1);(try clear c2);(try clear p2);(try clear c3);(try clear c6);(try clear c7);(try clear c8);(try clear c8b0);(try clear c8b1);(try clear c8b2);(try clear c9);(try clear c9b0);(try clear c9b1);(try clear c9b2);(try clear c11);(try clear c17);(try clear c22);(try clear c27);(try clear c30);(try clear c31);(try clear z_12);(try clear z_14);(try clear z_15);(try clear z_18);(try clear z_20);(try clear z_21);(try clear z_23);(try clear z_25);(try clear z_26);(try clear z_28);(try clear z_32);(try clear p2)
     obtain ⟨x42_2,rfl,HA,HK2,BK424,BK425,HB⟩ := hrel
     cases gk with
     | zero => exact absurd HA.out (by simp [impl_SourceOk.l0])
     | succ k2 =>
      have H := HA.out
      clear HA
      simp only [impl_SourceOk.l0] at H
      by_cases c33 : x42_2 < (l1_0.length : Int)
      ·rw [if_pos c33] at H
       have c33b0 : decide (x42_2 < (l1_0.length : Int)) = true := decide_eq_true c33
       clear c33
       by_cases c34 : 0 ≤ x42_2
       ·rw [if_pos c34] at H
        have c34b0 : decide (0 ≤ x42_2) = true := decide_eq_true c34
        clear c34
        by_cases c35 : x42_2 < (l1_0.length : Int)
        ·rw [if_pos c35] at H
         have c35b0 : decide (x42_2 < (l1_0.length : Int)) = true := decide_eq_true c35
         clear c35
         have HC36 := aM_ H
         clear H
         have p428 : 0 ≤ (x42_2 : Int) := pD_
         have q428 : x42_2 < (l1_0.length : Int) := pD_
         obtain ⟨ad428,A428_1,c428_1,e428,hx428_0,hx428_1,hx428_2,hl428_1,hi428_1⟩ := at_T107 HR1_0.out x42_2 p428 q428
         cases e428
         replace hx428_0 := cB_ HB.out hx428_0
         replace hx428_1 := cB_ HB.out hx428_1
         replace hx428_2 := cB_ HB.out hx428_2
         have HR428_1 := aM_ hi428_1
         have HC428_1 := aM_ hl428_1
         clear hi428_1 hl428_1
         replace p428 := eq_true p428
         replace q428 := eq_true q428
         go_upto_region 6 with (first | ((with_reducible refine gate_dst (N := 6) rfl ?_);(try (refine gate_guard (by rfl) ?_;dsimp only));refine bX_ 6 (cs := #[.int .i64 0,.slice none 0 0,.int .i64 0]) (t := 107) ?_;intro gb429 hg w37 hbox hb;have BK429 := aM_ (hbox);have GE429 := aM_ (sZ_ hg HB.out);have NB424_429 := aM_ (nL_ hg BK424.out);have NB429_424 := aM_ (nG_ hg BK424.out);have NB425_429 := aM_ (nL_ hg BK425.out);have NB429_425 := aM_ (nG_ hg BK425.out);replace BK424 := aM_ (nB_ BK424.out hb);replace BK425 := aM_ (nB_ BK425.out hb);replace HB := aM_ (sT_ HB.out hb);clear hb hbox hg;have hnb38 := nn_ NB429_424 NB424_429;have hnb39 := nn_ NB429_425 NB425_429;have z_40 := bR3_ BK429.out))
         (try simp only [Act.put,List.setIfInBounds_toArray,List.set_cons_zero,List.set_cons_succ])
         go_cut [69] (fun v69 wc => ∃ (kq : Nat) (x69_35 : Bool),v69 = .bool x69_35 ∧ Aside0 (impl_SourceOk.j2 kq l1_0 (l1_0.length : Int) x42_2 x69_35 l0_0 l0_1 l1_0 l1_1 l1_2 = some r) ∧ Aside0 (kq ≤ k2) ∧ Aside0 (wc.heap[gb424]? = some (.cells #[(.slice A0_0 l0_0.length c0_0),(.slice A0_1 l0_1.length c0_1)] 44 (0,0))) ∧ Aside0 (wc.heap[gb425]? = some (.cells #[(.slice (some ad428) l1_0.length c1_0),(.slice A1_1 l1_1.length c1_1),(.slice A1_2 l1_2.length c1_2)] 28 (0,0))) ∧ Aside0 (wc.heap[gb429]? = some (.cells #[.int .i64 ((rd_T107 l1_0 x42_2).f0),(.slice A428_1 ((rd_T107 l1_0 x42_2).f1).length c428_1),.int .i64 ((rd_T107 l1_0 x42_2).f2)] 107 (0,0))) ∧ Aside0 (Below w.heap.size w wc))
         case first =>
          have H := HC36.out
          clear HC36
          by_cases c41 : (((rd_T107 l1_0 x42_2).f1).length : Int) = 4
          ·rw [if_pos c41] at H
           have c41b0 : ((((rd_T107 l1_0 x42_2).f1).length : Int) == 4) = true := beq_iff_eq.mpr c41
           have c41b1 : ((((rd_T107 l1_0 x42_2).f1).length : Int) != 4) = false := bne_eq_false_iff_eq.mpr c41
           clear c41
           (first | rw [c41b0] | (simp only [i64_w,i32_w];rw [c41b0]) | skip)
           replace H := Option.bind_eq_some_iff.mp H
           obtain ⟨t430,A420,H⟩ := H
           replace H : (if t430 = true then (if x42_2 < (l0_1.length : Int) then ((impl_within.f ((rd_T107 l1_0 x42_2).f0) 0 (wrap64 (((rd_L4 l0_1 x42_2).length : Int) - 1))).bind fun t432 => (impl_SourceOk.j2 k2 l1_0 (l1_0.length : Int) x42_2 (!t432) l0_0 l0_1 l1_0 l1_1 l1_2)) else (none)) else (impl_SourceOk.j2 k2 l1_0 (l1_0.length : Int) x42_2 true l0_0 l0_1 l1_0 l1_1 l1_2)) = some r := H
           have A42 := aM_ A420
           clear A420
           by_cases c43 : t430 = true
           ·subst c43
            have H1 : (if x42_2 < (l0_1.length : Int) then ((impl_within.f ((rd_T107 l1_0 x42_2).f0) 0 (wrap64 (((rd_L4 l0_1 x42_2).length : Int) - 1))).bind fun t432 => (impl_SourceOk.j2 k2 l1_0 (l1_0.length : Int) x42_2 (!t432) l0_0 l0_1 l1_0 l1_1 l1_2)) else (none)) = some r := by rw [if_pos rfl] at H;exact H
            clear H
            have H := H1
            clear H1
            by_cases c44 : x42_2 < (l0_1.length : Int)
            ·rw [if_pos c44] at H
             have c44b0 : decide (x42_2 < (l0_1.length : Int)) = true := decide_eq_true c44
             clear c44
             replace H := Option.bind_eq_some_iff.mp H
             obtain ⟨t432,A450,H⟩ := H
             replace H : (impl_SourceOk.j2 k2 l1_0 (l1_0.length : Int) x42_2 (!t432) l0_0 l0_1 l1_0 l1_1 l1_2) = some r := H
             have A45 := aM_ A450
             clear A450
             have H' := aM_ H
             clear H
             try go_wp2
             have n0 : Aside0 ((((w37.setCell ⟨gb429,0,none⟩ (.int .i64 ((rd_T107 l1_0 x42_2).f0))).setCell ⟨gb429,1,none⟩ (.slice A428_1 ((rd_T107 l1_0 x42_2).f1).length c428_1)).setCell ⟨gb429,2,none⟩ (.int .i64 ((rd_T107 l1_0 x42_2).f2))).heap[gb424]? = some (.cells #[.slice A0_0 l0_0.length c0_0,.slice A0_1 l0_1.length c0_1] 44 (0,0))) := ⟨rWf_ BK424.out⟩
             have n1 : Aside0 ((((w37.setCell ⟨gb429,0,none⟩ (.int .i64 ((rd_T107 l1_0 x42_2).f0))).setCell ⟨gb429,1,none⟩ (.slice A428_1 ((rd_T107 l1_0 x42_2).f1).length c428_1)).setCell ⟨gb429,2,none⟩ (.int .i64 ((rd_T107 l1_0 x42_2).f2))).heap[gb425]? = some (.cells #[.slice (some ad428) l1_0.length c1_0,.slice A1_1 l1_1.length c1_1,.slice A1_2 l1_2.length c1_2] 28 (0,0))) := ⟨rWf_ BK425.out⟩
             have n2 : Aside0 ((((w37.setCell ⟨gb429,0,none⟩ (.int .i64 ((rd_T107 l1_0 x42_2).f0))).setCell ⟨gb429,1,none⟩ (.slice A428_1 ((rd_T107 l1_0 x42_2).f1).length c428_1)).setCell ⟨gb429,2,none⟩ (.int .i64 ((rd_T107 l1_0 x42_2).f2))).heap[gb429]? = some (.cells #[.int .i64 ((rd_T107 l1_0 x42_2).f0),.slice A428_1 ((rd_T107 l1_0 x42_2).f1).length c428_1,.int .i64 ((rd_T107 l1_0 x42_2).f2)] 107 (0,0))) := ⟨by (with_reducible repeat (first | refine bN_ ?_ _ | refine bD_ ?_ | refine bA_ ?_ _));refine blk_put (cs := #[.int .i64 ((rd_T107 l1_0 x42_2).f0),.slice A428_1 ((rd_T107 l1_0 x42_2).f1).length c428_1,.int .i64 0]) ?_ 2 _ rfl;refine blk_put (cs := #[.int .i64 ((rd_T107 l1_0 x42_2).f0),.slice none 0 0,.int .i64 0]) ?_ 1 _ rfl;refine blk_put (cs := #[.int .i64 0,.slice none 0 0,.int .i64 0]) ?_ 0 _ rfl;(with_reducible repeat (first | refine bN_ ?_ _ | refine bD_ ?_ | refine bA_ ?_ _));exact BK429.out⟩
             have n3 : Aside0 (Below w.heap.size w (((w37.setCell ⟨gb429,0,none⟩ (.int .i64 ((rd_T107 l1_0 x42_2).f0))).setCell ⟨gb429,1,none⟩ (.slice A428_1 ((rd_T107 l1_0 x42_2).f1).length c428_1)).setCell ⟨gb429,2,none⟩ (.int .i64 ((rd_T107 l1_0 x42_2).f2)))) := ⟨gW_ HB.out⟩
             (try clear BK424)
             (try clear BK425)
             (try clear BK429)
             (try clear HB)
             generalize (((w37.setCell ⟨gb429,0,none⟩ (.int .i64 ((rd_T107 l1_0 x42_2).f0))).setCell ⟨gb429,1,none⟩ (.slice A428_1 ((rd_T107 l1_0 x42_2).f1).length c428_1)).setCell ⟨gb429,2,none⟩ (.int .i64 ((rd_T107 l1_0 x42_2).f2))) = w46 at n0 n1 n2 n3 ⊢
             have BK424 := n0
             have BK425 := n1
             have BK429 := n2
             have HB := n3
             clear n0 n1 n2 n3
             replace BK424 := aM_ (blk_drew BK424.out)
             replace BK425 := aM_ (blk_drew BK425.out)
             replace BK429 := aM_ (blk_drew BK429.out)
             replace HB := aM_ (below_drew1 HB.out)
             have p431 : 0 ≤ (x42_2 : Int) := pD_
             have q431 : x42_2 < (l0_1.length : Int) := pD_
             obtain ⟨ad431,A431_0,c431_0,e431,hx431_0,hl431_0,hi431_0⟩ := at_L4 HR0_1.out x42_2 p431 q431
             have hw431_0 := hx431_0
             cases e431
             replace hx431_0 := cB_ HB.out hx431_0
             have HR431_0 := aM_ hi431_0
             have HC431_0 := aM_ hl431_0
             clear hi431_0 hl431_0
             replace p431 := eq_true p431
             replace q431 := eq_true q431
             refine sTa_ 23 (fun w' => K_ w' gb429 0 (.int .i64 ((rd_T107 l1_0 x42_2).f0)) ∧ K_ w' gb429 1 (.slice A428_1 ((rd_T107 l1_0 x42_2).f1).length c428_1) ∧ K_ w' gb429 2 (.int .i64 ((rd_T107 l1_0 x42_2).f2)) ∧ K_ w' gb424 0 (.slice A0_0 l0_0.length c0_0) ∧ K_ w' gb424 1 (.slice (some ad431) l0_1.length c0_1) ∧ w'.cell? (ad431.add (x42_2).toNat) = some (.slice A431_0 (rd_L4 l0_1 x42_2).length c431_0)) [] ⟨(blk_cell BK429.out 0).trans rfl,(blk_cell BK429.out 1).trans rfl,(blk_cell BK429.out 2).trans rfl,(blk_cell BK424.out 0).trans rfl,(blk_cell BK424.out 1).trans rfl,(cB_ HB.out hw431_0 :)⟩ (fun hHeld => ?_);refine with_tabW impl_SourceOk.tab6 impl_SourceOk.bits6 (fun HT_ HW_ => ?_)
             generalize w46.drew = w47 at BK424 BK425 BK429 HB HR431_0 hx431_0 hHeld ⊢
             refine jU_ 0 47 23 1 ?_
             refine jK6_ 1 48 23 3 ?_
             refine jU_ 2 49 23 7 ?_
             refine jU_ 3 50 23 15 ?_
             refine jU_ 4 51 23 31 ?_
             refine jU_ 5 52 23 63 ?_
             refine jK6_ 6 53 23 127 ?_
             refine jN_ 7 54 23 255 (fun K hK => ?_)
             refine gO_ Try.func106 #[.int .i64 ((rd_T107 l1_0 x42_2).f2),.int .i64 0,.int .i64 2] ?_
             with_reducible refine (impl_within.calls ((rd_T107 l1_0 x42_2).f2) 0 2 true _ A42.out).mono ?_
             rintro e w' ⟨rfl,⟨nd,rfl⟩⟩
             refine ⟨_,rfl,?_⟩
             refine kO_ hK (some 54) ⟨(blk_cell BK429.out 0).trans rfl,(blk_cell BK429.out 1).trans rfl,(blk_cell BK429.out 2).trans rfl,(blk_cell BK424.out 0).trans rfl,(blk_cell BK424.out 1).trans rfl,(cB_ HB.out hw431_0 :)⟩ (fun hHeld => ?_)
             clear hK K
             refine jU_ 8 55 23 511 ?_
             refine jU_ 9 56 23 1023 ?_
             refine jU_ 10 57 23 2047 ?_
             refine jU_ 11 58 23 4095 ?_
             refine jU_ 13 60 23 12287 ?_
             refine jU_ 15 62 23 45055 ?_
             refine jK6_ 12 59 23 49151 ?_
             refine jK6_ 14 61 23 65535 ?_
             refine jU_ 16 63 23 131071 ?_
             refine jK6_ 17 64 23 262143 ?_
             refine jU_ 18 65 23 524287 ?_
             refine jU_ 19 66 23 1048575 ?_
             refine jN_ 20 67 23 2097151 (fun K hK => ?_)
             refine gO_ Try.func106 #[.int .i64 ((rd_T107 l1_0 x42_2).f0),.int .i64 0,.int .i64 (wrap64 (((rd_L4 l0_1 x42_2).length : Int) - 1))] ?_
             with_reducible refine (impl_within.calls ((rd_T107 l1_0 x42_2).f0) 0 (wrap64 (((rd_L4 l0_1 x42_2).length : Int) - 1)) t432 _ A45.out).mono ?_
             rintro e w' ⟨rfl,⟨nd,rfl⟩⟩
             refine ⟨_,rfl,?_⟩
             refine kO_ hK (some 67) ⟨(blk_cell BK429.out 0).trans rfl,(blk_cell BK429.out 1).trans rfl,(blk_cell BK429.out 2).trans rfl,(blk_cell BK424.out 0).trans rfl,(blk_cell BK424.out 1).trans rfl,(cB_ HB.out hw431_0 :)⟩ (fun hHeld => ?_)
             clear hK K
             refine jU_ 21 68 23 4194303 ?_
             refine jU_ 22 69 23 8388607 ?_
             refine done_ (done_of HT_.out (by kernel_rfl)) ?_
             try go_wp2
             go_meet
             case rel => exact ⟨_,(!t432),(by first | rfl | (simp;done) | (simp [*];done)),H',⟨by have := HJ2.out;have := HK2.out;first | omega | exact Nat.le_refl _⟩,⟨rW_ BK424.out⟩,⟨rW_ BK425.out⟩,⟨rW_ BK429.out⟩,⟨gW_ HB.out⟩⟩
            ·rw [if_neg c44] at H
             exact absurd H (by simp)
           ·replace c43 := Bool.eq_false_iff.mpr c43
            subst c43
            have H1 : (impl_SourceOk.j2 k2 l1_0 (l1_0.length : Int) x42_2 true l0_0 l0_1 l1_0 l1_1 l1_2) = some r := by rw [if_neg (show ¬ (false = true) by decide)] at H;exact H
            clear H
            have H := H1
            clear H1
            have H' := aM_ H
            clear H
            try go_wp2
            have n0 : Aside0 ((((w37.setCell ⟨gb429,0,none⟩ (.int .i64 ((rd_T107 l1_0 x42_2).f0))).setCell ⟨gb429,1,none⟩ (.slice A428_1 ((rd_T107 l1_0 x42_2).f1).length c428_1)).setCell ⟨gb429,2,none⟩ (.int .i64 ((rd_T107 l1_0 x42_2).f2))).heap[gb424]? = some (.cells #[.slice A0_0 l0_0.length c0_0,.slice A0_1 l0_1.length c0_1] 44 (0,0))) := ⟨rWf_ BK424.out⟩
            have n1 : Aside0 ((((w37.setCell ⟨gb429,0,none⟩ (.int .i64 ((rd_T107 l1_0 x42_2).f0))).setCell ⟨gb429,1,none⟩ (.slice A428_1 ((rd_T107 l1_0 x42_2).f1).length c428_1)).setCell ⟨gb429,2,none⟩ (.int .i64 ((rd_T107 l1_0 x42_2).f2))).heap[gb425]? = some (.cells #[.slice (some ad428) l1_0.length c1_0,.slice A1_1 l1_1.length c1_1,.slice A1_2 l1_2.length c1_2] 28 (0,0))) := ⟨rWf_ BK425.out⟩
            have n2 : Aside0 ((((w37.setCell ⟨gb429,0,none⟩ (.int .i64 ((rd_T107 l1_0 x42_2).f0))).setCell ⟨gb429,1,none⟩ (.slice A428_1 ((rd_T107 l1_0 x42_2).f1).length c428_1)).setCell ⟨gb429,2,none⟩ (.int .i64 ((rd_T107 l1_0 x42_2).f2))).heap[gb429]? = some (.cells #[.int .i64 ((rd_T107 l1_0 x42_2).f0),.slice A428_1 ((rd_T107 l1_0 x42_2).f1).length c428_1,.int .i64 ((rd_T107 l1_0 x42_2).f2)] 107 (0,0))) := ⟨by (with_reducible repeat (first | refine bN_ ?_ _ | refine bD_ ?_ | refine bA_ ?_ _));refine blk_put (cs := #[.int .i64 ((rd_T107 l1_0 x42_2).f0),.slice A428_1 ((rd_T107 l1_0 x42_2).f1).length c428_1,.int .i64 0]) ?_ 2 _ rfl;refine blk_put (cs := #[.int .i64 ((rd_T107 l1_0 x42_2).f0),.slice none 0 0,.int .i64 0]) ?_ 1 _ rfl;refine blk_put (cs := #[.int .i64 0,.slice none 0 0,.int .i64 0]) ?_ 0 _ rfl;(with_reducible repeat (first | refine bN_ ?_ _ | refine bD_ ?_ | refine bA_ ?_ _));exact BK429.out⟩
            have n3 : Aside0 (Below w.heap.size w (((w37.setCell ⟨gb429,0,none⟩ (.int .i64 ((rd_T107 l1_0 x42_2).f0))).setCell ⟨gb429,1,none⟩ (.slice A428_1 ((rd_T107 l1_0 x42_2).f1).length c428_1)).setCell ⟨gb429,2,none⟩ (.int .i64 ((rd_T107 l1_0 x42_2).f2)))) := ⟨gW_ HB.out⟩
            (try clear BK424)
            (try clear BK425)
            (try clear BK429)
            (try clear HB)
            generalize (((w37.setCell ⟨gb429,0,none⟩ (.int .i64 ((rd_T107 l1_0 x42_2).f0))).setCell ⟨gb429,1,none⟩ (.slice A428_1 ((rd_T107 l1_0 x42_2).f1).length c428_1)).setCell ⟨gb429,2,none⟩ (.int .i64 ((rd_T107 l1_0 x42_2).f2))) = w48 at n0 n1 n2 n3 ⊢
            have BK424 := n0
            have BK425 := n1
            have BK429 := n2
            have HB := n3
            clear n0 n1 n2 n3
            replace BK424 := aM_ (blk_drew BK424.out)
            replace BK425 := aM_ (blk_drew BK425.out)
            replace BK429 := aM_ (blk_drew BK429.out)
            replace HB := aM_ (below_drew1 HB.out)
            refine sTa_ 23 (fun w' => K_ w' gb429 0 (.int .i64 ((rd_T107 l1_0 x42_2).f0)) ∧ K_ w' gb429 1 (.slice A428_1 ((rd_T107 l1_0 x42_2).f1).length c428_1) ∧ K_ w' gb429 2 (.int .i64 ((rd_T107 l1_0 x42_2).f2))) [] (bC3_ BK429.out) (fun hHeld => ?_);refine with_tabW impl_SourceOk.tab6 impl_SourceOk.bits6 (fun HT_ HW_ => ?_)
            generalize w48.drew = w49 at BK424 BK425 BK429 HB hHeld ⊢
            refine jU_ 0 47 23 1 ?_
            refine jK3_ 1 48 23 3 ?_
            refine jU_ 2 49 23 7 ?_
            refine jU_ 3 50 23 15 ?_
            refine jU_ 4 51 23 31 ?_
            refine jU_ 5 52 23 63 ?_
            refine jK3_ 6 53 23 127 ?_
            refine jN_ 7 54 23 255 (fun K hK => ?_)
            refine gO_ Try.func106 #[.int .i64 ((rd_T107 l1_0 x42_2).f2),.int .i64 0,.int .i64 2] ?_
            with_reducible refine (impl_within.calls ((rd_T107 l1_0 x42_2).f2) 0 2 false _ A42.out).mono ?_
            rintro e w' ⟨rfl,⟨nd,rfl⟩⟩
            refine ⟨_,rfl,?_⟩
            refine kO_ hK (some 54) (bC3_ BK429.out) (fun hHeld => ?_)
            clear hK K
            refine jU_ 8 55 23 511 ?_
            refine jU_ 9 56 23 1023 ?_
            refine jU_ 10 57 23 2047 ?_
            refine jX_ 11 58 23 4095 ?_
            refine jX_ 12 59 23 8191 ?_
            refine jX_ 13 60 23 16383 ?_
            refine jX_ 14 61 23 32767 ?_
            refine jX_ 15 62 23 65535 ?_
            refine jX_ 16 63 23 131071 ?_
            refine jX_ 17 64 23 262143 ?_
            refine jX_ 18 65 23 524287 ?_
            refine jX_ 19 66 23 1048575 ?_
            refine jX_ 20 67 23 2097151 ?_
            refine jX_ 21 68 23 4194303 ?_
            refine jU_ 22 69 23 8388607 ?_
            refine done_ (done_of HT_.out (by kernel_rfl)) ?_
            try go_wp2
            go_meet
            case rel => exact ⟨_,(true),(by first | rfl | (simp;done) | (simp [*];done)),H',⟨by have := HJ2.out;have := HK2.out;first | omega | exact Nat.le_refl _⟩,⟨rW_ BK424.out⟩,⟨rW_ BK425.out⟩,⟨rW_ BK429.out⟩,⟨gW_ HB.out⟩⟩
          ·rw [if_neg c41] at H
           have c41b0 : ((((rd_T107 l1_0 x42_2).f1).length : Int) == 4) = false := beq_eq_false_iff_ne.mpr c41
           have c41b1 : ((((rd_T107 l1_0 x42_2).f1).length : Int) != 4) = true := bne_iff_ne.mpr c41
           (first | rw [c41b0] | (simp only [i64_w,i32_w];rw [c41b0]) | skip)
           have H' := aM_ H
           clear H
           try go_wp2
           have n0 : Aside0 ((((w37.setCell ⟨gb429,0,none⟩ (.int .i64 ((rd_T107 l1_0 x42_2).f0))).setCell ⟨gb429,1,none⟩ (.slice A428_1 ((rd_T107 l1_0 x42_2).f1).length c428_1)).setCell ⟨gb429,2,none⟩ (.int .i64 ((rd_T107 l1_0 x42_2).f2))).heap[gb424]? = some (.cells #[.slice A0_0 l0_0.length c0_0,.slice A0_1 l0_1.length c0_1] 44 (0,0))) := ⟨rWf_ BK424.out⟩
           have n1 : Aside0 ((((w37.setCell ⟨gb429,0,none⟩ (.int .i64 ((rd_T107 l1_0 x42_2).f0))).setCell ⟨gb429,1,none⟩ (.slice A428_1 ((rd_T107 l1_0 x42_2).f1).length c428_1)).setCell ⟨gb429,2,none⟩ (.int .i64 ((rd_T107 l1_0 x42_2).f2))).heap[gb425]? = some (.cells #[.slice (some ad428) l1_0.length c1_0,.slice A1_1 l1_1.length c1_1,.slice A1_2 l1_2.length c1_2] 28 (0,0))) := ⟨rWf_ BK425.out⟩
           have n2 : Aside0 ((((w37.setCell ⟨gb429,0,none⟩ (.int .i64 ((rd_T107 l1_0 x42_2).f0))).setCell ⟨gb429,1,none⟩ (.slice A428_1 ((rd_T107 l1_0 x42_2).f1).length c428_1)).setCell ⟨gb429,2,none⟩ (.int .i64 ((rd_T107 l1_0 x42_2).f2))).heap[gb429]? = some (.cells #[.int .i64 ((rd_T107 l1_0 x42_2).f0),.slice A428_1 ((rd_T107 l1_0 x42_2).f1).length c428_1,.int .i64 ((rd_T107 l1_0 x42_2).f2)] 107 (0,0))) := ⟨by (with_reducible repeat (first | refine bN_ ?_ _ | refine bD_ ?_ | refine bA_ ?_ _));refine blk_put (cs := #[.int .i64 ((rd_T107 l1_0 x42_2).f0),.slice A428_1 ((rd_T107 l1_0 x42_2).f1).length c428_1,.int .i64 0]) ?_ 2 _ rfl;refine blk_put (cs := #[.int .i64 ((rd_T107 l1_0 x42_2).f0),.slice none 0 0,.int .i64 0]) ?_ 1 _ rfl;refine blk_put (cs := #[.int .i64 0,.slice none 0 0,.int .i64 0]) ?_ 0 _ rfl;(with_reducible repeat (first | refine bN_ ?_ _ | refine bD_ ?_ | refine bA_ ?_ _));exact BK429.out⟩
           have n3 : Aside0 (Below w.heap.size w (((w37.setCell ⟨gb429,0,none⟩ (.int .i64 ((rd_T107 l1_0 x42_2).f0))).setCell ⟨gb429,1,none⟩ (.slice A428_1 ((rd_T107 l1_0 x42_2).f1).length c428_1)).setCell ⟨gb429,2,none⟩ (.int .i64 ((rd_T107 l1_0 x42_2).f2)))) := ⟨gW_ HB.out⟩
           (try clear BK424)
           (try clear BK425)
           (try clear BK429)
           (try clear HB)
           generalize (((w37.setCell ⟨gb429,0,none⟩ (.int .i64 ((rd_T107 l1_0 x42_2).f0))).setCell ⟨gb429,1,none⟩ (.slice A428_1 ((rd_T107 l1_0 x42_2).f1).length c428_1)).setCell ⟨gb429,2,none⟩ (.int .i64 ((rd_T107 l1_0 x42_2).f2))) = w50 at n0 n1 n2 n3 ⊢
           have BK424 := n0
           have BK425 := n1
           have BK429 := n2
           have HB := n3
           clear n0 n1 n2 n3
           replace BK424 := aM_ (blk_drew BK424.out)
           replace BK425 := aM_ (blk_drew BK425.out)
           replace BK429 := aM_ (blk_drew BK429.out)
           replace HB := aM_ (below_drew1 HB.out)
           refine sTa_ 23 (fun w' => K_ w' gb429 0 (.int .i64 ((rd_T107 l1_0 x42_2).f0)) ∧ K_ w' gb429 1 (.slice A428_1 ((rd_T107 l1_0 x42_2).f1).length c428_1) ∧ K_ w' gb429 2 (.int .i64 ((rd_T107 l1_0 x42_2).f2))) [] (bC3_ BK429.out) (fun hHeld => ?_);refine with_tabW impl_SourceOk.tab6 impl_SourceOk.bits6 (fun HT_ HW_ => ?_)
           generalize w50.drew = w51 at BK424 BK425 BK429 HB hHeld ⊢
           refine jU_ 0 47 23 1 ?_
           refine jK3_ 1 48 23 3 ?_
           refine jU_ 2 49 23 7 ?_
           refine jU_ 3 50 23 15 ?_
           refine jU_ 4 51 23 31 ?_
           refine jX_ 5 52 23 63 ?_
           refine jX_ 6 53 23 127 ?_
           refine jX_ 7 54 23 255 ?_
           refine jX_ 8 55 23 511 ?_
           refine jU_ 9 56 23 1023 ?_
           refine jU_ 10 57 23 2047 ?_
           refine jX_ 11 58 23 4095 ?_
           refine jX_ 12 59 23 8191 ?_
           refine jX_ 13 60 23 16383 ?_
           refine jX_ 14 61 23 32767 ?_
           refine jX_ 15 62 23 65535 ?_
           refine jX_ 16 63 23 131071 ?_
           refine jX_ 17 64 23 262143 ?_
           refine jX_ 18 65 23 524287 ?_
           refine jX_ 19 66 23 1048575 ?_
           refine jX_ 20 67 23 2097151 ?_
           refine jX_ 21 68 23 4194303 ?_
           refine jU_ 22 69 23 8388607 ?_
           refine done_ (done_of HT_.out (by kernel_rfl)) ?_
           try go_wp2
           go_meet
           case rel => exact ⟨_,(true),(by first | rfl | (simp;done) | (simp [*];done)),H',⟨by have := HJ2.out;have := HK2.out;first | omega | exact Nat.le_refl _⟩,⟨rW_ BK424.out⟩,⟨rW_ BK425.out⟩,⟨rW_ BK429.out⟩,⟨gW_ HB.out⟩⟩
         case rest =>
          clear HC36
          (try clear c1);(try clear p2);(try clear c4);(try clear p4);(try clear q4);(try clear hx4);(try clear p6);(try clear c10);(try clear c41);(try clear c41b0);(try clear c41b1);(try clear c42);(try clear c43);(try clear p43);(try clear q43);(try clear hx43);(try clear c44);(try clear c44b0);(try clear hx431_0);(try clear p431);(try clear q431)
          obtain ⟨kq,x69_35,rfl,HA,HJ35,BK424,BK425,BK429,HB⟩ := hcut
          cases kq with
          | zero => exact absurd HA.out (by simp [impl_SourceOk.j2])
          | succ kj35 =>
           have H := HA.out
           clear HA
           simp only [impl_SourceOk.j2] at H
           by_cases c52 : x69_35 = true
           ·subst c52
            have H1 : (some false) = some r := by rw [if_pos rfl] at H;exact H
            clear H
            have H := H1
            clear H1
            obtain rfl := sJ_ H
            go_wp2
            go_ret
            exact fI_ HB.out
           ·replace c52 := Bool.eq_false_iff.mpr c52
            subst c52
            have H1 : (impl_SourceOk.l0 kj35 l1_0 (l1_0.length : Int) (wrap64 (x42_2 + 1)) l0_0 l0_1 l1_0 l1_1 l1_2) = some r := by rw [if_neg (show ¬ (false = true) by decide)] at H;exact H
            clear H
            have H := H1
            clear H1
            have H' := aM_ H
            clear H
            go_wp2
            go_roundg kj35
            case measure => have := HJ2.out;have := HK2.out;have := HJ35.out;omega
            case rel => exact ⟨(wrap64 (x42_2 + 1)),(by first | rfl | (simp;done) | (simp [*];done)),H',⟨by have := HJ2.out;have := HK2.out;have := HJ35.out;omega⟩,⟨rW_ BK424.out⟩,⟨rW_ BK425.out⟩,⟨gW_ HB.out⟩⟩
        ·rw [if_neg c35] at H
         exact absurd H (by simp)
       ·rw [if_neg c34] at H
        exact absurd H (by simp)
      ·rw [if_neg c33] at H
       have c33b0 : decide (x42_2 < (l1_0.length : Int)) = false := decide_eq_false c33
       clear c33
       have H' := aM_ H
       clear H
       have hnb53 := NB425_424.out
       have hnc53 := NB424_425.out
       have z_54 := bR3_ BK425.out
       go_wp2
       go_loopg [74] k2 (fun kq v74 w' => ∃ (x74_3 : Int),v74 = .int .i64 x74_3 ∧ Aside0 (impl_SourceOk.l1 kq l1_1 (l1_1.length : Int) x74_3 l0_0 l0_1 = some r) ∧ Aside0 (kq ≤ k2) ∧ Aside0 (w'.heap[gb424]? = some (.cells #[(.slice A0_0 l0_0.length c0_0),(.slice A0_1 l0_1.length c0_1)] 44 (0,0))) ∧ Aside0 (w'.heap[gb425]? = some (.cells #[(.slice A1_0 l1_0.length c1_0),(.slice A1_1 l1_1.length c1_1),(.slice A1_2 l1_2.length c1_2)] 28 (0,0))) ∧ Aside0 (Below w.heap.size w w'))
       case atStart => exact ⟨(0),(by first | rfl | (simp;done) | (simp [*];done)),H',⟨Nat.le_refl _⟩,⟨rW_ BK424.out⟩,⟨rW_ BK425.out⟩,⟨gW_ HB.out⟩⟩
       case round =>
        clear H'
        (try clear c1);(try clear p2);(try clear c3);(try clear c4);(try clear p4);(try clear q4);(try clear hx4);(try clear c5);(try clear p6);(try clear c10);(try clear c33);(try clear c33b0);(try clear c34);(try clear c35);(try clear c41);(try clear c41b0);(try clear c41b1);(try clear c42);(try clear c43);(try clear p43);(try clear q43);(try clear hx43);(try clear c44);(try clear c44b0);(try clear c52);(try clear c53);(try clear z_54);(try clear hx431_0);(try clear p2);(try clear p4);(try clear p43);(try clear p431);(try clear p6);(try clear q4);(try clear q43);(try clear q431)
        obtain ⟨x74_3,rfl,HA,HK3,BK424,BK425,HB⟩ := hrel
        cases gk with
        | zero => exact absurd HA.out (by simp [impl_SourceOk.l1])
        | succ k3 =>
         have H := HA.out
         clear HA
         simp only [impl_SourceOk.l1] at H
         by_cases c55 : x74_3 < (l1_1.length : Int)
         ·rw [if_pos c55] at H
          have c55b0 : decide (x74_3 < (l1_1.length : Int)) = true := decide_eq_true c55
          clear c55
          by_cases c56 : 0 ≤ x74_3
          ·rw [if_pos c56] at H
           have c56b0 : decide (0 ≤ x74_3) = true := decide_eq_true c56
           clear c56
           by_cases c57 : x74_3 < (l1_1.length : Int)
           ·rw [if_pos c57] at H
            have c57b0 : decide (x74_3 < (l1_1.length : Int)) = true := decide_eq_true c57
            clear c57
            replace H := Option.bind_eq_some_iff.mp H
            obtain ⟨t435,A580,H⟩ := H
            replace H : (if t435 = true then (if x74_3 < (l0_0.length : Int) then (if ((rd_T94 l1_1 x74_3).f0) = (rd l0_0 x74_3) then (impl_SourceOk.l1 k3 l1_1 (l1_1.length : Int) (wrap64 (x74_3 + 1)) l0_0 l0_1) else (some false)) else (none)) else (some false)) = some r := H
            have A58 := aM_ A580
            clear A580
            by_cases c59 : t435 = true
            ·subst c59
             have H1 : (if x74_3 < (l0_0.length : Int) then (if ((rd_T94 l1_1 x74_3).f0) = (rd l0_0 x74_3) then (impl_SourceOk.l1 k3 l1_1 (l1_1.length : Int) (wrap64 (x74_3 + 1)) l0_0 l0_1) else (some false)) else (none)) = some r := by rw [if_pos rfl] at H;exact H
             clear H
             have H := H1
             clear H1
             by_cases c60 : x74_3 < (l0_0.length : Int)
             ·rw [if_pos c60] at H
              have c60b0 : decide (x74_3 < (l0_0.length : Int)) = true := decide_eq_true c60
              clear c60
              by_cases c61 : ((rd_T94 l1_1 x74_3).f0) = (rd l0_0 x74_3)
              ·rw [if_pos c61] at H
               have c61b0 : (((rd_T94 l1_1 x74_3).f0) == (rd l0_0 x74_3)) = true := beq_iff_eq.mpr c61
               have c61b1 : (((rd_T94 l1_1 x74_3).f0) != (rd l0_0 x74_3)) = false := bne_eq_false_iff_eq.mpr c61
               clear c61
               have H' := aM_ H
               clear H
               have p433 : 0 ≤ (x74_3 : Int) := pD_
               have q433 : x74_3 < (l1_1.length : Int) := pD_
               obtain ⟨ad433,A433_1,c433_1,e433,hx433_0,hx433_1,hx433_2,hl433_1,hi433_1⟩ := at_T94 HR1_1.out x74_3 p433 q433
               cases e433
               replace hx433_0 := cB_ HB.out hx433_0
               replace hx433_1 := cB_ HB.out hx433_1
               replace hx433_2 := cB_ HB.out hx433_2
               have HR433_1 := aM_ hi433_1
               have HC433_1 := aM_ hl433_1
               clear hi433_1 hl433_1
               replace p433 := eq_true p433
               replace q433 := eq_true q433
               try go_wp2_with (first | ((with_reducible refine gate_dst (N := 8) rfl ?_);(try (refine gate_guard (by rfl) ?_;dsimp only));refine bX_ 8 (cs := #[.int .i64 0,.slice none 0 0,.bool false]) (t := 94) ?_;intro gb434 hg w62 hbox hb;have BK434 := aM_ (hbox);have GE434 := aM_ (sZ_ hg HB.out);have NB424_434 := aM_ (nL_ hg BK424.out);have NB434_424 := aM_ (nG_ hg BK424.out);have NB425_434 := aM_ (nL_ hg BK425.out);have NB434_425 := aM_ (nG_ hg BK425.out);replace BK424 := aM_ (nB_ BK424.out hb);replace BK425 := aM_ (nB_ BK425.out hb);replace HB := aM_ (sT_ HB.out hb);clear hb hbox hg;have hnb63 := nn_ NB434_424 NB424_434;have hnb64 := nn_ NB434_425 NB425_434;have z_65 := bR3_ BK434.out))
               have n0 : Aside0 ((((w62.setCell ⟨gb434,0,none⟩ (.int .i64 ((rd_T94 l1_1 x74_3).f0))).setCell ⟨gb434,1,none⟩ (.slice A433_1 ((rd_T94 l1_1 x74_3).f1).length c433_1)).setCell ⟨gb434,2,none⟩ (.bool ((rd_T94 l1_1 x74_3).f2))).heap[gb424]? = some (.cells #[.slice A0_0 l0_0.length c0_0,.slice A0_1 l0_1.length c0_1] 44 (0,0))) := ⟨rWf_ BK424.out⟩
               have n1 : Aside0 ((((w62.setCell ⟨gb434,0,none⟩ (.int .i64 ((rd_T94 l1_1 x74_3).f0))).setCell ⟨gb434,1,none⟩ (.slice A433_1 ((rd_T94 l1_1 x74_3).f1).length c433_1)).setCell ⟨gb434,2,none⟩ (.bool ((rd_T94 l1_1 x74_3).f2))).heap[gb425]? = some (.cells #[.slice A1_0 l1_0.length c1_0,.slice (some ad433) l1_1.length c1_1,.slice A1_2 l1_2.length c1_2] 28 (0,0))) := ⟨rWf_ BK425.out⟩
               have n2 : Aside0 ((((w62.setCell ⟨gb434,0,none⟩ (.int .i64 ((rd_T94 l1_1 x74_3).f0))).setCell ⟨gb434,1,none⟩ (.slice A433_1 ((rd_T94 l1_1 x74_3).f1).length c433_1)).setCell ⟨gb434,2,none⟩ (.bool ((rd_T94 l1_1 x74_3).f2))).heap[gb434]? = some (.cells #[.int .i64 ((rd_T94 l1_1 x74_3).f0),.slice A433_1 ((rd_T94 l1_1 x74_3).f1).length c433_1,.bool ((rd_T94 l1_1 x74_3).f2)] 94 (0,0))) := ⟨by (with_reducible repeat (first | refine bN_ ?_ _ | refine bD_ ?_ | refine bA_ ?_ _));refine blk_put (cs := #[.int .i64 ((rd_T94 l1_1 x74_3).f0),.slice A433_1 ((rd_T94 l1_1 x74_3).f1).length c433_1,.bool false]) ?_ 2 _ rfl;refine blk_put (cs := #[.int .i64 ((rd_T94 l1_1 x74_3).f0),.slice none 0 0,.bool false]) ?_ 1 _ rfl;refine blk_put (cs := #[.int .i64 0,.slice none 0 0,.bool false]) ?_ 0 _ rfl;(with_reducible repeat (first | refine bN_ ?_ _ | refine bD_ ?_ | refine bA_ ?_ _));exact BK434.out⟩
               have n3 : Aside0 (Below w.heap.size w (((w62.setCell ⟨gb434,0,none⟩ (.int .i64 ((rd_T94 l1_1 x74_3).f0))).setCell ⟨gb434,1,none⟩ (.slice A433_1 ((rd_T94 l1_1 x74_3).f1).length c433_1)).setCell ⟨gb434,2,none⟩ (.bool ((rd_T94 l1_1 x74_3).f2)))) := ⟨gW_ HB.out⟩
               (try clear BK424)
               (try clear BK425)
               (try clear BK434)
               (try clear HB)
               generalize (((w62.setCell ⟨gb434,0,none⟩ (.int .i64 ((rd_T94 l1_1 x74_3).f0))).setCell ⟨gb434,1,none⟩ (.slice A433_1 ((rd_T94 l1_1 x74_3).f1).length c433_1)).setCell ⟨gb434,2,none⟩ (.bool ((rd_T94 l1_1 x74_3).f2))) = w66 at n0 n1 n2 n3 ⊢
               have BK424 := n0
               have BK425 := n1
               have BK434 := n2
               have HB := n3
               clear n0 n1 n2 n3
               replace BK424 := aM_ (blk_drew BK424.out)
               replace BK425 := aM_ (blk_drew BK425.out)
               replace BK434 := aM_ (blk_drew BK434.out)
               replace HB := aM_ (below_drew1 HB.out)
               have p436 : 0 ≤ (x74_3 : Int) := pD_
               have q436 : x74_3 < (l0_0.length : Int) := pD_
               obtain ⟨ad436,e436,hx436_0⟩ := Kd.at_int HR0_0.out x74_3 p436 q436
               have hw436_0 := hx436_0
               cases e436
               replace hx436_0 := cB_ HB.out hx436_0
               replace p436 := eq_true p436
               replace q436 := eq_true q436
               refine sTa_ 13 (fun w' => K_ w' gb434 0 (.int .i64 ((rd_T94 l1_1 x74_3).f0)) ∧ K_ w' gb434 1 (.slice A433_1 ((rd_T94 l1_1 x74_3).f1).length c433_1) ∧ K_ w' gb434 2 (.bool ((rd_T94 l1_1 x74_3).f2)) ∧ K_ w' gb424 0 (.slice (some ad436) l0_0.length c0_0) ∧ K_ w' gb424 1 (.slice A0_1 l0_1.length c0_1) ∧ w'.cell? (ad436.add (x74_3).toNat) = some (.int .i64 (rd l0_0 x74_3))) [] ⟨(blk_cell BK434.out 0).trans rfl,(blk_cell BK434.out 1).trans rfl,(blk_cell BK434.out 2).trans rfl,(blk_cell BK424.out 0).trans rfl,(blk_cell BK424.out 1).trans rfl,(cB_ HB.out hw436_0 :)⟩ (fun hHeld => ?_);refine with_tabW impl_SourceOk.tab12 impl_SourceOk.bits12 (fun HT_ HW_ => ?_)
               generalize w66.drew = w67 at BK424 BK425 BK434 HB hx436_0 hHeld ⊢
               refine jK6_ 0 79 13 1 ?_
               refine jN_ 1 80 13 3 (fun K hK => ?_)
               refine gO_ Try.func54 #[.agg #[.int .i64 ((rd_T94 l1_1 x74_3).f0),.slice A433_1 ((rd_T94 l1_1 x74_3).f1).length c433_1,.bool ((rd_T94 l1_1 x74_3).f2)]] ?_
               with_reducible refine (impl_ChanOk.calls ((rd_T94 l1_1 x74_3).f0) _ _ ((rd_T94 l1_1 x74_3).f1) ((rd_T94 l1_1 x74_3).f2) true _ ?side1 ?side2 A58.out).mono ?_
               (case side1 => exact cS_ (Kd.C_below HR433_1.out HB.out))
               (case side2 => exact HC433_1.out)
               rintro e w68 ⟨rfl,hb⟩
               refine ⟨_,rfl,?_⟩
               replace BK424 := aM_ (nB_ BK424.out hb)
               replace BK425 := aM_ (nB_ BK425.out hb)
               replace BK434 := aM_ (nB_ BK434.out hb)
               replace HB := aM_ (sT_ HB.out hb)
               (try clear hb)
               (try clear hb2)
               (try clear hk)
               (try clear hi)
               refine kO_ hK (some 80) ⟨(blk_cell BK434.out 0).trans rfl,(blk_cell BK434.out 1).trans rfl,(blk_cell BK434.out 2).trans rfl,(blk_cell BK424.out 0).trans rfl,(blk_cell BK424.out 1).trans rfl,(cB_ HB.out hw436_0 :)⟩ (fun hHeld => ?_)
               clear hK K
               refine jU_ 2 81 13 7 ?_
               refine jU_ 3 82 13 15 ?_
               refine jU_ 4 83 13 31 ?_
               refine jU_ 6 85 13 95 ?_
               refine jU_ 8 87 13 351 ?_
               refine jK6_ 5 84 13 383 ?_
               refine jK6_ 7 86 13 511 ?_
               refine jU_ 9 88 13 1023 ?_
               refine jK6_ 10 89 13 2047 ?_
               refine jU_ 11 90 13 4095 ?_
               refine jU_ 12 91 13 8191 ?_
               refine done_ (done_of HT_.out (by kernel_rfl)) ?_
               try go_wp2
               go_roundg k3
               case measure => have := HJ2.out;have := HK2.out;have := HK3.out;omega
               case rel => exact ⟨(wrap64 (x74_3 + 1)),(by first | rfl | (simp;done) | (simp [*];done)),H',⟨by have := HJ2.out;have := HK2.out;have := HK3.out;omega⟩,⟨rW_ BK424.out⟩,⟨rW_ BK425.out⟩,⟨gW_ HB.out⟩⟩
              ·rw [if_neg c61] at H
               have c61b0 : (((rd_T94 l1_1 x74_3).f0) == (rd l0_0 x74_3)) = false := beq_eq_false_iff_ne.mpr c61
               have c61b1 : (((rd_T94 l1_1 x74_3).f0) != (rd l0_0 x74_3)) = true := bne_iff_ne.mpr c61
               obtain rfl := sJ_ H
               have p433 : 0 ≤ (x74_3 : Int) := pD_
               have q433 : x74_3 < (l1_1.length : Int) := pD_
               obtain ⟨ad433,A433_1,c433_1,e433,hx433_0,hx433_1,hx433_2,hl433_1,hi433_1⟩ := at_T94 HR1_1.out x74_3 p433 q433
               cases e433
               replace hx433_0 := cB_ HB.out hx433_0
               replace hx433_1 := cB_ HB.out hx433_1
               replace hx433_2 := cB_ HB.out hx433_2
               have HR433_1 := aM_ hi433_1
               have HC433_1 := aM_ hl433_1
               clear hi433_1 hl433_1
               replace p433 := eq_true p433
               replace q433 := eq_true q433
               try go_wp2_with (first | ((with_reducible refine gate_dst (N := 8) rfl ?_);(try (refine gate_guard (by rfl) ?_;dsimp only));refine bX_ 8 (cs := #[.int .i64 0,.slice none 0 0,.bool false]) (t := 94) ?_;intro gb434 hg w69 hbox hb;have BK434 := aM_ (hbox);have GE434 := aM_ (sZ_ hg HB.out);have NB424_434 := aM_ (nL_ hg BK424.out);have NB434_424 := aM_ (nG_ hg BK424.out);have NB425_434 := aM_ (nL_ hg BK425.out);have NB434_425 := aM_ (nG_ hg BK425.out);replace BK424 := aM_ (nB_ BK424.out hb);replace BK425 := aM_ (nB_ BK425.out hb);replace HB := aM_ (sT_ HB.out hb);clear hb hbox hg;have hnb70 := nn_ NB434_424 NB424_434;have hnb71 := nn_ NB434_425 NB425_434;have z_72 := bR3_ BK434.out))
               have n0 : Aside0 ((((w69.setCell ⟨gb434,0,none⟩ (.int .i64 ((rd_T94 l1_1 x74_3).f0))).setCell ⟨gb434,1,none⟩ (.slice A433_1 ((rd_T94 l1_1 x74_3).f1).length c433_1)).setCell ⟨gb434,2,none⟩ (.bool ((rd_T94 l1_1 x74_3).f2))).heap[gb424]? = some (.cells #[.slice A0_0 l0_0.length c0_0,.slice A0_1 l0_1.length c0_1] 44 (0,0))) := ⟨rWf_ BK424.out⟩
               have n1 : Aside0 ((((w69.setCell ⟨gb434,0,none⟩ (.int .i64 ((rd_T94 l1_1 x74_3).f0))).setCell ⟨gb434,1,none⟩ (.slice A433_1 ((rd_T94 l1_1 x74_3).f1).length c433_1)).setCell ⟨gb434,2,none⟩ (.bool ((rd_T94 l1_1 x74_3).f2))).heap[gb425]? = some (.cells #[.slice A1_0 l1_0.length c1_0,.slice (some ad433) l1_1.length c1_1,.slice A1_2 l1_2.length c1_2] 28 (0,0))) := ⟨rWf_ BK425.out⟩
               have n2 : Aside0 ((((w69.setCell ⟨gb434,0,none⟩ (.int .i64 ((rd_T94 l1_1 x74_3).f0))).setCell ⟨gb434,1,none⟩ (.slice A433_1 ((rd_T94 l1_1 x74_3).f1).length c433_1)).setCell ⟨gb434,2,none⟩ (.bool ((rd_T94 l1_1 x74_3).f2))).heap[gb434]? = some (.cells #[.int .i64 ((rd_T94 l1_1 x74_3).f0),.slice A433_1 ((rd_T94 l1_1 x74_3).f1).length c433_1,.bool ((rd_T94 l1_1 x74_3).f2)] 94 (0,0))) := ⟨by (with_reducible repeat (first | refine bN_ ?_ _ | refine bD_ ?_ | refine bA_ ?_ _));refine blk_put (cs := #[.int .i64 ((rd_T94 l1_1 x74_3).f0),.slice A433_1 ((rd_T94 l1_1 x74_3).f1).length c433_1,.bool false]) ?_ 2 _ rfl;refine blk_put (cs := #[.int .i64 ((rd_T94 l1_1 x74_3).f0),.slice none 0 0,.bool false]) ?_ 1 _ rfl;refine blk_put (cs := #[.int .i64 0,.slice none 0 0,.bool false]) ?_ 0 _ rfl;(with_reducible repeat (first | refine bN_ ?_ _ | refine bD_ ?_ | refine bA_ ?_ _));exact BK434.out⟩
               have n3 : Aside0 (Below w.heap.size w (((w69.setCell ⟨gb434,0,none⟩ (.int .i64 ((rd_T94 l1_1 x74_3).f0))).setCell ⟨gb434,1,none⟩ (.slice A433_1 ((rd_T94 l1_1 x74_3).f1).length c433_1)).setCell ⟨gb434,2,none⟩ (.bool ((rd_T94 l1_1 x74_3).f2)))) := ⟨gW_ HB.out⟩
               (try clear BK424)
               (try clear BK425)
               (try clear BK434)
               (try clear HB)
               generalize (((w69.setCell ⟨gb434,0,none⟩ (.int .i64 ((rd_T94 l1_1 x74_3).f0))).setCell ⟨gb434,1,none⟩ (.slice A433_1 ((rd_T94 l1_1 x74_3).f1).length c433_1)).setCell ⟨gb434,2,none⟩ (.bool ((rd_T94 l1_1 x74_3).f2))) = w73 at n0 n1 n2 n3 ⊢
               have BK424 := n0
               have BK425 := n1
               have BK434 := n2
               have HB := n3
               clear n0 n1 n2 n3
               replace BK424 := aM_ (blk_drew BK424.out)
               replace BK425 := aM_ (blk_drew BK425.out)
               replace BK434 := aM_ (blk_drew BK434.out)
               replace HB := aM_ (below_drew1 HB.out)
               have p436 : 0 ≤ (x74_3 : Int) := pD_
               have q436 : x74_3 < (l0_0.length : Int) := pD_
               obtain ⟨ad436,e436,hx436_0⟩ := Kd.at_int HR0_0.out x74_3 p436 q436
               have hw436_0 := hx436_0
               cases e436
               replace hx436_0 := cB_ HB.out hx436_0
               replace p436 := eq_true p436
               replace q436 := eq_true q436
               refine sTa_ 13 (fun w' => K_ w' gb434 0 (.int .i64 ((rd_T94 l1_1 x74_3).f0)) ∧ K_ w' gb434 1 (.slice A433_1 ((rd_T94 l1_1 x74_3).f1).length c433_1) ∧ K_ w' gb434 2 (.bool ((rd_T94 l1_1 x74_3).f2)) ∧ K_ w' gb424 0 (.slice (some ad436) l0_0.length c0_0) ∧ K_ w' gb424 1 (.slice A0_1 l0_1.length c0_1) ∧ w'.cell? (ad436.add (x74_3).toNat) = some (.int .i64 (rd l0_0 x74_3))) [] ⟨(blk_cell BK434.out 0).trans rfl,(blk_cell BK434.out 1).trans rfl,(blk_cell BK434.out 2).trans rfl,(blk_cell BK424.out 0).trans rfl,(blk_cell BK424.out 1).trans rfl,(cB_ HB.out hw436_0 :)⟩ (fun hHeld => ?_);refine with_tabW impl_SourceOk.tab12 impl_SourceOk.bits12 (fun HT_ HW_ => ?_)
               generalize w73.drew = w74 at BK424 BK425 BK434 HB hx436_0 hHeld ⊢
               refine jK6_ 0 79 13 1 ?_
               refine jN_ 1 80 13 3 (fun K hK => ?_)
               refine gO_ Try.func54 #[.agg #[.int .i64 ((rd_T94 l1_1 x74_3).f0),.slice A433_1 ((rd_T94 l1_1 x74_3).f1).length c433_1,.bool ((rd_T94 l1_1 x74_3).f2)]] ?_
               with_reducible refine (impl_ChanOk.calls ((rd_T94 l1_1 x74_3).f0) _ _ ((rd_T94 l1_1 x74_3).f1) ((rd_T94 l1_1 x74_3).f2) true _ ?side1 ?side2 A58.out).mono ?_
               (case side1 => exact cS_ (Kd.C_below HR433_1.out HB.out))
               (case side2 => exact HC433_1.out)
               rintro e w75 ⟨rfl,hb⟩
               refine ⟨_,rfl,?_⟩
               replace BK424 := aM_ (nB_ BK424.out hb)
               replace BK425 := aM_ (nB_ BK425.out hb)
               replace BK434 := aM_ (nB_ BK434.out hb)
               replace HB := aM_ (sT_ HB.out hb)
               (try clear hb)
               (try clear hb2)
               (try clear hk)
               (try clear hi)
               refine kO_ hK (some 80) ⟨(blk_cell BK434.out 0).trans rfl,(blk_cell BK434.out 1).trans rfl,(blk_cell BK434.out 2).trans rfl,(blk_cell BK424.out 0).trans rfl,(blk_cell BK424.out 1).trans rfl,(cB_ HB.out hw436_0 :)⟩ (fun hHeld => ?_)
               clear hK K
               refine jU_ 2 81 13 7 ?_
               refine jU_ 3 82 13 15 ?_
               refine jU_ 4 83 13 31 ?_
               refine jU_ 6 85 13 95 ?_
               refine jU_ 8 87 13 351 ?_
               refine jK6_ 5 84 13 383 ?_
               refine jK6_ 7 86 13 511 ?_
               refine jU_ 9 88 13 1023 ?_
               refine jK6_ 10 89 13 2047 ?_
               refine jU_ 11 90 13 4095 ?_
               refine jU_ 12 91 13 8191 ?_
               refine done_ (done_of HT_.out (by kernel_rfl)) ?_
               try go_wp2
               go_ret
               exact fI_ HB.out
             ·rw [if_neg c60] at H
              exact absurd H (by simp)
            ·replace c59 := Bool.eq_false_iff.mpr c59
             subst c59
             have H1 := hF_ H
             clear H
             have H := H1
             clear H1
             obtain rfl := sJ_ H
             have p433 : 0 ≤ (x74_3 : Int) := pD_
             have q433 : x74_3 < (l1_1.length : Int) := pD_
             obtain ⟨ad433,A433_1,c433_1,e433,hx433_0,hx433_1,hx433_2,hl433_1,hi433_1⟩ := at_T94 HR1_1.out x74_3 p433 q433
             cases e433
             replace hx433_0 := cB_ HB.out hx433_0
             replace hx433_1 := cB_ HB.out hx433_1
             replace hx433_2 := cB_ HB.out hx433_2
             have HR433_1 := aM_ hi433_1
             have HC433_1 := aM_ hl433_1
             clear hi433_1 hl433_1
             replace p433 := eq_true p433
             replace q433 := eq_true q433
             try go_wp2_with (first | ((with_reducible refine gate_dst (N := 8) rfl ?_);(try (refine gate_guard (by rfl) ?_;dsimp only));refine bX_ 8 (cs := #[.int .i64 0,.slice none 0 0,.bool false]) (t := 94) ?_;intro gb434 hg w76 hbox hb;have BK434 := aM_ (hbox);have GE434 := aM_ (sZ_ hg HB.out);have NB424_434 := aM_ (nL_ hg BK424.out);have NB434_424 := aM_ (nG_ hg BK424.out);have NB425_434 := aM_ (nL_ hg BK425.out);have NB434_425 := aM_ (nG_ hg BK425.out);replace BK424 := aM_ (nB_ BK424.out hb);replace BK425 := aM_ (nB_ BK425.out hb);replace HB := aM_ (sT_ HB.out hb);clear hb hbox hg;have hnb77 := nn_ NB434_424 NB424_434;have hnb78 := nn_ NB434_425 NB425_434;have z_79 := bR3_ BK434.out))
             have n0 : Aside0 ((((w76.setCell ⟨gb434,0,none⟩ (.int .i64 ((rd_T94 l1_1 x74_3).f0))).setCell ⟨gb434,1,none⟩ (.slice A433_1 ((rd_T94 l1_1 x74_3).f1).length c433_1)).setCell ⟨gb434,2,none⟩ (.bool ((rd_T94 l1_1 x74_3).f2))).heap[gb424]? = some (.cells #[.slice A0_0 l0_0.length c0_0,.slice A0_1 l0_1.length c0_1] 44 (0,0))) := ⟨rWf_ BK424.out⟩
             have n1 : Aside0 ((((w76.setCell ⟨gb434,0,none⟩ (.int .i64 ((rd_T94 l1_1 x74_3).f0))).setCell ⟨gb434,1,none⟩ (.slice A433_1 ((rd_T94 l1_1 x74_3).f1).length c433_1)).setCell ⟨gb434,2,none⟩ (.bool ((rd_T94 l1_1 x74_3).f2))).heap[gb425]? = some (.cells #[.slice A1_0 l1_0.length c1_0,.slice (some ad433) l1_1.length c1_1,.slice A1_2 l1_2.length c1_2] 28 (0,0))) := ⟨rWf_ BK425.out⟩
             have n2 : Aside0 ((((w76.setCell ⟨gb434,0,none⟩ (.int .i64 ((rd_T94 l1_1 x74_3).f0))).setCell ⟨gb434,1,none⟩ (.slice A433_1 ((rd_T94 l1_1 x74_3).f1).length c433_1)).setCell ⟨gb434,2,none⟩ (.bool ((rd_T94 l1_1 x74_3).f2))).heap[gb434]? = some (.cells #[.int .i64 ((rd_T94 l1_1 x74_3).f0),.slice A433_1 ((rd_T94 l1_1 x74_3).f1).length c433_1,.bool ((rd_T94 l1_1 x74_3).f2)] 94 (0,0))) := ⟨by (with_reducible repeat (first | refine bN_ ?_ _ | refine bD_ ?_ | refine bA_ ?_ _));refine blk_put (cs := #[.int .i64 ((rd_T94 l1_1 x74_3).f0),.slice A433_1 ((rd_T94 l1_1 x74_3).f1).length c433_1,.bool false]) ?_ 2 _ rfl;refine blk_put (cs := #[.int .i64 ((rd_T94 l1_1 x74_3).f0),.slice none 0 0,.bool false]) ?_ 1 _ rfl;refine blk_put (cs := #[.int .i64 0,.slice none 0 0,.bool false]) ?_ 0 _ rfl;(with_reducible repeat (first | refine bN_ ?_ _ | refine bD_ ?_ | refine bA_ ?_ _));exact BK434.out⟩
             have n3 : Aside0 (Below w.heap.size w (((w76.setCell ⟨gb434,0,none⟩ (.int .i64 ((rd_T94 l1_1 x74_3).f0))).setCell ⟨gb434,1,none⟩ (.slice A433_1 ((rd_T94 l1_1 x74_3).f1).length c433_1)).setCell ⟨gb434,2,none⟩ (.bool ((rd_T94 l1_1 x74_3).f2)))) := ⟨gW_ HB.out⟩
             (try clear BK424)
             (try clear BK425)
             (try clear BK434)
             (try clear HB)
             generalize (((w76.setCell ⟨gb434,0,none⟩ (.int .i64 ((rd_T94 l1_1 x74_3).f0))).setCell ⟨gb434,1,none⟩ (.slice A433_1 ((rd_T94 l1_1 x74_3).f1).length c433_1)).setCell ⟨gb434,2,none⟩ (.bool ((rd_T94 l1_1 x74_3).f2))) = w80 at n0 n1 n2 n3 ⊢
             have BK424 := n0
             have BK425 := n1
             have BK434 := n2
             have HB := n3
             clear n0 n1 n2 n3
             replace BK424 := aM_ (blk_drew BK424.out)
             replace BK425 := aM_ (blk_drew BK425.out)
             replace BK434 := aM_ (blk_drew BK434.out)
             replace HB := aM_ (below_drew1 HB.out)
             refine sTa_ 13 (fun w' => K_ w' gb434 0 (.int .i64 ((rd_T94 l1_1 x74_3).f0)) ∧ K_ w' gb434 1 (.slice A433_1 ((rd_T94 l1_1 x74_3).f1).length c433_1) ∧ K_ w' gb434 2 (.bool ((rd_T94 l1_1 x74_3).f2))) [] (bC3_ BK434.out) (fun hHeld => ?_);refine with_tabW impl_SourceOk.tab12 impl_SourceOk.bits12 (fun HT_ HW_ => ?_)
             generalize w80.drew = w81 at BK424 BK425 BK434 HB hHeld ⊢
             refine jK3_ 0 79 13 1 ?_
             refine jN_ 1 80 13 3 (fun K hK => ?_)
             refine gO_ Try.func54 #[.agg #[.int .i64 ((rd_T94 l1_1 x74_3).f0),.slice A433_1 ((rd_T94 l1_1 x74_3).f1).length c433_1,.bool ((rd_T94 l1_1 x74_3).f2)]] ?_
             with_reducible refine (impl_ChanOk.calls ((rd_T94 l1_1 x74_3).f0) _ _ ((rd_T94 l1_1 x74_3).f1) ((rd_T94 l1_1 x74_3).f2) false _ ?side1 ?side2 A58.out).mono ?_
             (case side1 => exact cS_ (Kd.C_below HR433_1.out HB.out))
             (case side2 => exact HC433_1.out)
             rintro e w82 ⟨rfl,hb⟩
             refine ⟨_,rfl,?_⟩
             replace BK424 := aM_ (nB_ BK424.out hb)
             replace BK425 := aM_ (nB_ BK425.out hb)
             replace BK434 := aM_ (nB_ BK434.out hb)
             replace HB := aM_ (sT_ HB.out hb)
             (try clear hb)
             (try clear hb2)
             (try clear hk)
             (try clear hi)
             refine kO_ hK (some 80) (bC3_ BK434.out) (fun hHeld => ?_)
             clear hK K
             refine jU_ 2 81 13 7 ?_
             refine jU_ 3 82 13 15 ?_
             refine jX_ 4 83 13 31 ?_
             refine jX_ 5 84 13 63 ?_
             refine jX_ 6 85 13 127 ?_
             refine jX_ 7 86 13 255 ?_
             refine jX_ 8 87 13 511 ?_
             refine jX_ 9 88 13 1023 ?_
             refine jX_ 10 89 13 2047 ?_
             refine jX_ 11 90 13 4095 ?_
             refine jU_ 12 91 13 8191 ?_
             refine done_ (done_of HT_.out (by kernel_rfl)) ?_
             try go_wp2
             go_ret
             exact fI_ HB.out
           ·rw [if_neg c57] at H
            exact absurd H (by simp)
          ·rw [if_neg c56] at H
           exact absurd H (by simp)
         ·rw [if_neg c55] at H
          have c55b0 : decide (x74_3 < (l1_1.length : Int)) = false := decide_eq_false c55
          clear c55
          obtain rfl := sJ_ H
          go_wp2
          go_ret
          exact fI_ HB.out
end Go.Proofs.Ytobachfngmpeiaa.PFnExactAble
