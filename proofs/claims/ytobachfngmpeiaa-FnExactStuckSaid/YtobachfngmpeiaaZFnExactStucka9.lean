/- A part of the proof that the law FnExactStuck holds for every input. -/
import Derived.Test.YtobachfngmpeiaaZFnExactStucka8
import Derived.Test.YtobachfngmpeiaaZFnExactStucks
namespace Go.Proofs.Ytobachfngmpeiaa.PFnExactStuck
open Go.RowKit Go.Proofs.YtobachfngmpeiaaW.PrintWords Go.Proofs.YtobachfngmpeiaaW.PrintLast Go.Proofs.YtobachfngmpeiaaW.PrintMore
attribute [local go_sem] max2_int min2_int max_two min_two max_three min_three max_four min_four   -- for this text's walks alone
set_option linter.unusedVariables false
set_option linter.unusedSimpArgs false
mutual
def spec_SourceOk.j0 : Nat → Bool → List Int → List (List (S192)) → List (S107) → List (S94) → List (S35) → Option (Bool)
  | 0,_,_,_,_,_,_ => none
  | k + 1,x35,x211000,x211001,x212000,x212001,x212002 => if x35 = true then (some false) else (spec_SourceOk.l0 k 0 x211000 x211001 x212000 x212001 x212002)
def spec_SourceOk.l0 : Nat → Int → List Int → List (List (S192)) → List (S107) → List (S94) → List (S35) → Option (Bool)
  | 0,_,_,_,_,_,_ => none
  | k + 1,x5,x211000,x211001,x212000,x212001,x212002 => if x5 < (x212000.length : Int) then (if 0 ≤ x5 then (if (((rd_T107 x212000 x5).f1).length : Int) = 4 then ((spec_l1In.f ((rd_T107 x212000 x5).f2) 0 2).bind fun t215 => (if t215 = true then (if x5 < (x211001.length : Int) then ((spec_l1In.f ((rd_T107 x212000 x5).f0) 0 (wrap64 (((rd_L4 x211001 x5).length : Int) - 1))).bind fun t217 => (spec_SourceOk.j2 k x5 (!t217) x211000 x211001 x212000 x212001 x212002)) else (none)) else (spec_SourceOk.j2 k x5 true x211000 x211001 x212000 x212001 x212002))) else (spec_SourceOk.j2 k x5 true x211000 x211001 x212000 x212001 x212002)) else (none)) else (spec_SourceOk.l1 k 0 x211000 x211001 x212000 x212001 x212002)
def spec_SourceOk.j2 : Nat → Int → Bool → List Int → List (List (S192)) → List (S107) → List (S94) → List (S35) → Option (Bool)
  | 0,_,_,_,_,_,_,_ => none
  | k + 1,x5,x70,x211000,x211001,x212000,x212001,x212002 => if x70 = true then (some false) else (spec_SourceOk.l0 k (wrap64 (x5 + 1)) x211000 x211001 x212000 x212001 x212002)
def spec_SourceOk.l1 : Nat → Int → List Int → List (List (S192)) → List (S107) → List (S94) → List (S35) → Option (Bool)
  | 0,_,_,_,_,_,_ => none
  | k + 1,x7,x211000,x211001,x212000,x212001,x212002 => if x7 < (x212001.length : Int) then (if 0 ≤ x7 then ((spec_ChanOk.f ((rd_T94 x212001 x7).f0) ((rd_T94 x212001 x7).f1) ((rd_T94 x212001 x7).f2)).bind fun t219 => (if t219 = true then (if x7 < (x211000.length : Int) then (if ((rd_T94 x212001 x7).f0) = (rd x211000 x7) then (spec_SourceOk.l1 k (wrap64 (x7 + 1)) x211000 x211001 x212000 x212001 x212002) else (some false)) else (none)) else (some false))) else (none)) else (spec_SourceOk.l2 k 0 x212000 x212001 x212002)
def spec_SourceOk.l2 : Nat → Int → List (S107) → List (S94) → List (S35) → Option (Bool)
  | 0,_,_,_,_ => none
  | k + 1,x8,x212000,x212001,x212002 => if x8 < (x212002.length : Int) then (if 0 ≤ x8 then ((spec_l1In.f ((rd_T35 x212002 x8).f0) 0 (wrap64 ((x212000.length : Int) - 1))).bind fun t223 => (if t223 = true then (spec_SourceOk.l2 k (wrap64 (x8 + 1)) x212000 x212001 x212002) else (some false))) else (none)) else (some true)
end
def spec_SourceOk.f (k : Nat) (l0_0 : List Int) (l0_1 : List (List (S192))) (l1_0 : List (S107)) (l1_1 : List (S94)) (l1_2 : List (S35)) : Option (Bool) := (spec_ProgOk.f k l0_0 l0_1).bind fun t212 => (if t212 = true then (if (l1_0.length : Int) = (l0_1.length : Int) then (if (l1_1.length : Int) = (l0_0.length : Int) then (spec_SourceOk.j0 k (decide ((l1_2.length : Int) > 4000)) l0_0 l0_1 l1_0 l1_1 l1_2) else (spec_SourceOk.j0 k true l0_0 l0_1 l1_0 l1_1 l1_2)) else (spec_SourceOk.j0 k true l0_0 l0_1 l1_0 l1_1 l1_2)) else (spec_SourceOk.j0 k true l0_0 l0_1 l1_0 l1_1 l1_2))
def spec_SourceOk.T7 : Bool × List (List Nat × List Nat) := (true,[([],[]),([0],[0]),([1],[1]),([2],[2]),([3],[3]),([4],[4]),([5,4],[4,5]),([6,4,4],[4,6]),([7,4],[4,7]),([4,8],[4,8]),([9,7],[9]),([10],[10]),([11,10],[10,11]),([10],[10]),([13,10],[10,13]),([10],[10]),([14,15,10],[10,14,15]),([16,10],[10,16]),([17,10],[10,17]),([18,10],[10,18]),([12,19,10,10],[10,12,19]),([20,10],[10,20]),([10,21],[10,21])])
def spec_SourceOk.B7 : List Nat := [0,1,3,7,15,31,63,127,255,511,1023,2047,4095,2047,10239,2047,59391,124927,255999,518143,1048575,2097151,4194303]
theorem spec_SourceOk.tab7 : rtab .any (opsOf Try.f94 7) = spec_SourceOk.T7 := by kernel_rfl
theorem spec_SourceOk.bits7 : waitsOk spec_SourceOk.T7.2 spec_SourceOk.B7 = true := by kernel_rfl
def spec_SourceOk.T12 : Bool × List (List Nat × List Nat) := (true,[([],[]),([0],[0]),([],[]),([1,2],[1,2]),([3],[3]),([4],[4]),([5],[5]),([6,5],[6]),([7],[7]),([8,7],[7,8]),([7],[7]),([9,10,7],[7,9,10]),([11,7],[7,11]),([12,7],[7,12]),([7],[7]),([14,7],[7,14]),([7],[7]),([15,16,7],[7,15,16]),([17,7],[7,17]),([13,18,7],[7,13,18]),([7,19],[7,19])])
def spec_SourceOk.B12 : List Nat := [0,1,0,7,15,31,63,127,255,511,255,2047,4095,8191,255,16639,255,114943,246015,524287,1048575]
theorem spec_SourceOk.tab12 : rtab .any (opsOf Try.f94 12) = spec_SourceOk.T12 := by kernel_rfl
theorem spec_SourceOk.bits12 : waitsOk spec_SourceOk.T12.2 spec_SourceOk.B12 = true := by kernel_rfl
def spec_SourceOk.T17 : Bool × List (List Nat × List Nat) := (true,[([],[]),([0],[0]),([],[]),([1,2],[1,2]),([3],[3]),([4],[4]),([],[]),([6],[6]),([7],[7]),([8],[8]),([5,9],[5,9]),([10],[10])])
def spec_SourceOk.B17 : List Nat := [0,1,0,7,15,31,0,64,192,448,1023,2047]
theorem spec_SourceOk.tab17 : rtab .any (opsOf Try.f94 17) = spec_SourceOk.T17 := by kernel_rfl
theorem spec_SourceOk.bits17 : waitsOk spec_SourceOk.T17.2 spec_SourceOk.B17 = true := by kernel_rfl
set_option maxHeartbeats 8000000 in
set_option maxRecDepth 100000 in
theorem spec_SourceOk.calls (k : Nat) (A0_0 : Option Addr) (c0_0 : Nat) (l0_0 : List Int) (A0_1 : Option Addr) (c0_1 : Nat) (l0_1 : List (List (S192))) (A1_0 : Option Addr) (c1_0 : Nat) (l1_0 : List (S107)) (A1_1 : Option Addr) (c1_1 : Nat) (l1_1 : List (S94)) (A1_2 : Option Addr) (c1_2 : Nat) (l1_2 : List (S35)) (r : Bool) (w : World) (hr0_0 : Kd.C (Kd.int .i64) w A0_0 l0_0.length l0_0) (hc0_0 : l0_0.length ≤ c0_0) (hr0_1 : Kd.C (Kd.slice 192 k192) w A0_1 l0_1.length l0_1) (hc0_1 : l0_1.length ≤ c0_1) (hr1_0 : Kd.C k107 w A1_0 l1_0.length l1_0) (hc1_0 : l1_0.length ≤ c1_0) (hr1_1 : Kd.C k94 w A1_1 l1_1.length l1_1) (hc1_1 : l1_1.length ≤ c1_1) (hr1_2 : Kd.C k35 w A1_2 l1_2.length l1_2) (hc1_2 : l1_2.length ≤ c1_2) (h : spec_SourceOk.f k l0_0 l0_1 l1_0 l1_1 l1_2 = some r) :
  Calls Try.prog 94 #[.agg #[.slice A0_0 l0_0.length c0_0,.slice A0_1 l0_1.length c0_1],.agg #[.slice A1_0 l1_0.length c1_0,.slice A1_1 l1_1.length c1_1,.slice A1_2 l1_2.length c1_2]] w fun e w' => e = .returned (.bool r) ∧ Below w.heap.size w w' := by
 have hu44 := Try.underlying44
 have hu28 := Try.underlying28
 have hu107 := Try.underlying107
 have hu94 := Try.underlying94
 have HR0_0 := aM_ hr0_0
 have HC0_0 := aM_ hc0_0
 clear hr0_0 hc0_0
 have HR0_1 := aM_ hr0_1
 have HC0_1 := aM_ hc0_1
 clear hr0_1 hc0_1
 have HR1_0 := aM_ hr1_0
 have HC1_0 := aM_ hc1_0
 clear hr1_0 hc1_0
 have HR1_1 := aM_ hr1_1
 have HC1_1 := aM_ hc1_1
 clear hr1_1 hc1_1
 have HR1_2 := aM_ hr1_2
 have HC1_2 := aM_ hc1_2
 clear hr1_2 hc1_2
 have HB := aM_ (Below.refl w.heap.size w)
 have H : ((spec_ProgOk.f k l0_0 l0_1).bind fun t212 => (if t212 = true then (if (l1_0.length : Int) = (l0_1.length : Int) then (if (l1_1.length : Int) = (l0_0.length : Int) then (spec_SourceOk.j0 k (decide ((l1_2.length : Int) > 4000)) l0_0 l0_1 l1_0 l1_1 l1_2) else (spec_SourceOk.j0 k true l0_0 l0_1 l1_0 l1_1 l1_2)) else (spec_SourceOk.j0 k true l0_0 l0_1 l1_0 l1_1 l1_2)) else (spec_SourceOk.j0 k true l0_0 l0_1 l1_0 l1_1 l1_2))) = some r := h
 clear h
 have HC3 := aM_ H
 clear H
 go_enter Try.func94,Try.ntmps94
 go_upto_region 1 with (first | ((with_reducible refine gate_dst (N := 2) rfl ?_);(try (refine gate_guard (by rfl) ?_;dsimp only));refine bX_ 2 (cs := #[.slice A0_0 l0_0.length c0_0,.slice A0_1 l0_1.length c0_1]) (t := 44) ?_;intro gb210 hg w4 hbox hb;have BK210 := aM_ (hbox);have GE210 := aM_ (sZ_ hg HB.out);replace HB := aM_ (sT_ HB.out hb);clear hb hbox hg) | ((with_reducible refine gate_dst (N := 3) rfl ?_);(try (refine gate_guard (by rfl) ?_;dsimp only));refine bX_ 3 (cs := #[.slice A1_0 l1_0.length c1_0,.slice A1_1 l1_1.length c1_1,.slice A1_2 l1_2.length c1_2]) (t := 28) ?_;intro gb211 hg w5 hbox hb;have BK211 := aM_ (hbox);have GE211 := aM_ (sZ_ hg HB.out);have NB210_211 := aM_ (nL_ hg BK210.out);have NB211_210 := aM_ (nG_ hg BK210.out);replace BK210 := aM_ (nB_ BK210.out hb);replace HB := aM_ (sT_ HB.out hb);clear hb hbox hg))
 (try simp only [Act.put,List.setIfInBounds_toArray,List.set_cons_zero,List.set_cons_succ])
 go_cut [35] (fun v35 wc => ∃ (kq : Nat) (x35_2 : Bool),v35 = .bool x35_2 ∧ Aside0 (spec_SourceOk.j0 kq x35_2 l0_0 l0_1 l1_0 l1_1 l1_2 = some r) ∧ Aside0 (kq ≤ k) ∧ Aside0 (wc.heap[gb210]? = some (.cells #[(.slice A0_0 l0_0.length c0_0),(.slice A0_1 l0_1.length c0_1)] 44 (0,0))) ∧ Aside0 (wc.heap[gb211]? = some (.cells #[(.slice A1_0 l1_0.length c1_0),(.slice A1_1 l1_1.length c1_1),(.slice A1_2 l1_2.length c1_2)] 28 (0,0))) ∧ Aside0 (Below w.heap.size w wc))
 case first =>
  have H := HC3.out
  clear HC3
  replace H := Option.bind_eq_some_iff.mp H
  obtain ⟨t212,A60,H⟩ := H
  replace H : (if t212 = true then (if (l1_0.length : Int) = (l0_1.length : Int) then (if (l1_1.length : Int) = (l0_0.length : Int) then (spec_SourceOk.j0 k (decide ((l1_2.length : Int) > 4000)) l0_0 l0_1 l1_0 l1_1 l1_2) else (spec_SourceOk.j0 k true l0_0 l0_1 l1_0 l1_1 l1_2)) else (spec_SourceOk.j0 k true l0_0 l0_1 l1_0 l1_1 l1_2)) else (spec_SourceOk.j0 k true l0_0 l0_1 l1_0 l1_1 l1_2)) = some r := H
  have A6 := aM_ A60
  clear A60
  by_cases c7 : t212 = true
  ·subst c7
   have H1 : (if (l1_0.length : Int) = (l0_1.length : Int) then (if (l1_1.length : Int) = (l0_0.length : Int) then (spec_SourceOk.j0 k (decide ((l1_2.length : Int) > 4000)) l0_0 l0_1 l1_0 l1_1 l1_2) else (spec_SourceOk.j0 k true l0_0 l0_1 l1_0 l1_1 l1_2)) else (spec_SourceOk.j0 k true l0_0 l0_1 l1_0 l1_1 l1_2)) = some r := by rw [if_pos rfl] at H;exact H
   clear H
   have H := H1
   clear H1
   by_cases c8 : (l1_0.length : Int) = (l0_1.length : Int)
   ·rw [if_pos c8] at H
    have c8b0 : ((l1_0.length : Int) == (l0_1.length : Int)) = true := beq_iff_eq.mpr c8
    have c8b1 : ((l1_0.length : Int) != (l0_1.length : Int)) = false := bne_eq_false_iff_eq.mpr c8
    have c8b2 : (l1_0.length == l0_1.length) = true := by first | simpa using c8 | (simp at c8 ⊢;omega)
    clear c8
    (first | rw [c8b0] | (simp only [i64_w,i32_w];rw [c8b0]) | skip)
    by_cases c9 : (l1_1.length : Int) = (l0_0.length : Int)
    ·rw [if_pos c9] at H
     have c9b0 : ((l1_1.length : Int) == (l0_0.length : Int)) = true := beq_iff_eq.mpr c9
     have c9b1 : ((l1_1.length : Int) != (l0_0.length : Int)) = false := bne_eq_false_iff_eq.mpr c9
     have c9b2 : (l1_1.length == l0_0.length) = true := by first | simpa using c9 | (simp at c9 ⊢;omega)
     clear c9
     have H' := aM_ H
     clear H
     have hnb10 := NB210_211.out
     have hnc10 := NB211_210.out
     have z_11 := bR2_ BK210.out
     go_wp2_with (first | ((with_reducible refine gate_callee (f := 60) rfl ?_);refine gL_ (some 10) Try.func60 #[.agg #[.slice A0_0 l0_0.length c0_0,.slice A0_1 l0_1.length c0_1]] ?_;(with_reducible refine (spec_ProgOk.calls k _ _ l0_0 _ _ l0_1 true _ ?side1 ?side2 ?side3 ?side4 A6.out).mono ?_);(case side1 => exact cS_ (Kd.C_below HR0_0.out HB.out));(case side2 => exact HC0_0.out);(case side3 => exact cS_ (Kd.C_below HR0_1.out HB.out));(case side4 => exact HC0_1.out);rintro e w12 ⟨rfl,hb⟩;refine ⟨_,rfl,?_⟩;replace BK210 := aM_ (nB_ BK210.out hb);replace BK211 := aM_ (nB_ BK211.out hb);replace HB := aM_ (sT_ HB.out hb);have z_13 := bR3_ BK211.out;have z_14 := bR2_ BK210.out))
     go_meet
     case rel => exact ⟨_,(decide ((l1_2.length : Int) > 4000)),(by first | rfl | (simp;done) | (simp [*];done)),H',⟨by first | omega | exact Nat.le_refl _⟩,⟨rW_ BK210.out⟩,⟨rW_ BK211.out⟩,⟨gW_ HB.out⟩⟩
    ·rw [if_neg c9] at H
     have c9b0 : ((l1_1.length : Int) == (l0_0.length : Int)) = false := beq_eq_false_iff_ne.mpr c9
     have c9b1 : ((l1_1.length : Int) != (l0_0.length : Int)) = true := bne_iff_ne.mpr c9
     have c9b2 : (l1_1.length == l0_0.length) = false := by first | simpa using c9 | (simp at c9 ⊢;omega)
     have H' := aM_ H
     clear H
     have hnb15 := NB210_211.out
     have hnc15 := NB211_210.out
     have z_16 := bR2_ BK210.out
     go_wp2_with (first | ((with_reducible refine gate_callee (f := 60) rfl ?_);refine gL_ (some 10) Try.func60 #[.agg #[.slice A0_0 l0_0.length c0_0,.slice A0_1 l0_1.length c0_1]] ?_;(with_reducible refine (spec_ProgOk.calls k _ _ l0_0 _ _ l0_1 true _ ?side1 ?side2 ?side3 ?side4 A6.out).mono ?_);(case side1 => exact cS_ (Kd.C_below HR0_0.out HB.out));(case side2 => exact HC0_0.out);(case side3 => exact cS_ (Kd.C_below HR0_1.out HB.out));(case side4 => exact HC0_1.out);rintro e w17 ⟨rfl,hb⟩;refine ⟨_,rfl,?_⟩;replace BK210 := aM_ (nB_ BK210.out hb);replace BK211 := aM_ (nB_ BK211.out hb);replace HB := aM_ (sT_ HB.out hb);have z_18 := bR3_ BK211.out;have z_19 := bR2_ BK210.out))
     go_meet
     case rel => exact ⟨_,(true),(by first | rfl | (simp;done) | (simp [*];done)),H',⟨by first | omega | exact Nat.le_refl _⟩,⟨rW_ BK210.out⟩,⟨rW_ BK211.out⟩,⟨gW_ HB.out⟩⟩
   ·rw [if_neg c8] at H
    have c8b0 : ((l1_0.length : Int) == (l0_1.length : Int)) = false := beq_eq_false_iff_ne.mpr c8
    have c8b1 : ((l1_0.length : Int) != (l0_1.length : Int)) = true := bne_iff_ne.mpr c8
    have c8b2 : (l1_0.length == l0_1.length) = false := by first | simpa using c8 | (simp at c8 ⊢;omega)
    (first | rw [c8b0] | (simp only [i64_w,i32_w];rw [c8b0]) | skip)
    have H' := aM_ H
    clear H
    have hnb20 := NB210_211.out
    have hnc20 := NB211_210.out
    have z_21 := bR2_ BK210.out
    go_wp2_with (first | ((with_reducible refine gate_callee (f := 60) rfl ?_);refine gL_ (some 10) Try.func60 #[.agg #[.slice A0_0 l0_0.length c0_0,.slice A0_1 l0_1.length c0_1]] ?_;(with_reducible refine (spec_ProgOk.calls k _ _ l0_0 _ _ l0_1 true _ ?side1 ?side2 ?side3 ?side4 A6.out).mono ?_);(case side1 => exact cS_ (Kd.C_below HR0_0.out HB.out));(case side2 => exact HC0_0.out);(case side3 => exact cS_ (Kd.C_below HR0_1.out HB.out));(case side4 => exact HC0_1.out);rintro e w22 ⟨rfl,hb⟩;refine ⟨_,rfl,?_⟩;replace BK210 := aM_ (nB_ BK210.out hb);replace BK211 := aM_ (nB_ BK211.out hb);replace HB := aM_ (sT_ HB.out hb);have z_23 := bR3_ BK211.out;have z_24 := bR2_ BK210.out))
    go_meet
    case rel => exact ⟨_,(true),(by first | rfl | (simp;done) | (simp [*];done)),H',⟨by first | omega | exact Nat.le_refl _⟩,⟨rW_ BK210.out⟩,⟨rW_ BK211.out⟩,⟨gW_ HB.out⟩⟩
  ·replace c7 := Bool.eq_false_iff.mpr c7
   subst c7
   have H1 : (spec_SourceOk.j0 k true l0_0 l0_1 l1_0 l1_1 l1_2) = some r := by rw [if_neg (show ¬ (false = true) by decide)] at H;exact H
   clear H
   have H := H1
   clear H1
   have H' := aM_ H
   clear H
   have hnb25 := NB210_211.out
   have hnc25 := NB211_210.out
   have z_26 := bR2_ BK210.out
   go_wp2_with (first | ((with_reducible refine gate_callee (f := 60) rfl ?_);refine gL_ (some 10) Try.func60 #[.agg #[.slice A0_0 l0_0.length c0_0,.slice A0_1 l0_1.length c0_1]] ?_;(with_reducible refine (spec_ProgOk.calls k _ _ l0_0 _ _ l0_1 false _ ?side1 ?side2 ?side3 ?side4 A6.out).mono ?_);(case side1 => exact cS_ (Kd.C_below HR0_0.out HB.out));(case side2 => exact HC0_0.out);(case side3 => exact cS_ (Kd.C_below HR0_1.out HB.out));(case side4 => exact HC0_1.out);rintro e w27 ⟨rfl,hb⟩;refine ⟨_,rfl,?_⟩;replace BK210 := aM_ (nB_ BK210.out hb);replace BK211 := aM_ (nB_ BK211.out hb);replace HB := aM_ (sT_ HB.out hb)))
   go_meet
   case rel => exact ⟨_,(true),(by first | rfl | (simp;done) | (simp [*];done)),H',⟨by first | omega | exact Nat.le_refl _⟩,⟨rW_ BK210.out⟩,⟨rW_ BK211.out⟩,⟨gW_ HB.out⟩⟩
 case rest =>
  clear HC3
  try clear c1
  try clear c2
  try clear p2
  try clear c6
  try clear c7
  try clear c8
  try clear c8b0
  try clear c8b1
  try clear c8b2
  try clear c9
  try clear c9b0
  try clear c9b1
  try clear c9b2
  try clear c10
  try clear c15
  try clear c20
  try clear c25
  try clear z_11
  try clear z_13
  try clear z_14
  try clear z_16
  try clear z_18
  try clear z_19
  try clear z_21
  try clear z_23
  try clear z_24
  try clear z_26
  obtain ⟨kq,x35_2,rfl,HA,HJ2,BK210,BK211,HB⟩ := hcut
  cases kq with
  | zero => exact absurd HA.out (by simp [spec_SourceOk.j0])
  | succ kj2 =>
   have H := HA.out
   clear HA
   simp only [spec_SourceOk.j0] at H
   by_cases c28 : x35_2 = true
   ·subst c28
    have H1 : (some false) = some r := by rw [if_pos rfl] at H;exact H
    clear H
    have H := H1
    clear H1
    obtain rfl := Option.some.inj H
    go_wp2
    go_ret
    exact fI_ HB.out
   ·replace c28 := Bool.eq_false_iff.mpr c28
    subst c28
    have H1 : (spec_SourceOk.l0 kj2 0 l0_0 l0_1 l1_0 l1_1 l1_2) = some r := by rw [if_neg (show ¬ (false = true) by decide)] at H;exact H
    clear H
    have H := H1
    clear H1
    have H' := aM_ H
    clear H
    go_wp2
    go_loopg [5] kj2 (fun kq v5 w' => ∃ (x5_2 : Int),v5 = .int .i64 x5_2 ∧ Aside0 (spec_SourceOk.l0 kq x5_2 l0_0 l0_1 l1_0 l1_1 l1_2 = some r) ∧ Aside0 (kq ≤ kj2) ∧ Aside0 (w'.heap[gb210]? = some (.cells #[(.slice A0_0 l0_0.length c0_0),(.slice A0_1 l0_1.length c0_1)] 44 (0,0))) ∧ Aside0 (w'.heap[gb211]? = some (.cells #[(.slice A1_0 l1_0.length c1_0),(.slice A1_1 l1_1.length c1_1),(.slice A1_2 l1_2.length c1_2)] 28 (0,0))) ∧ Aside0 (Below w.heap.size w w'))
    case atStart => exact ⟨(0),(by first | rfl | (simp;done) | (simp [*];done)),H',⟨Nat.le_refl _⟩,⟨rW_ BK210.out⟩,⟨rW_ BK211.out⟩,⟨gW_ HB.out⟩⟩
    case round =>
     clear H'
     try clear c1
     try clear c2
     try clear p2
     try clear c6
     try clear c7
     try clear c8
     try clear c8b0
     try clear c8b1
     try clear c8b2
     try clear c9
     try clear c9b0
     try clear c9b1
     try clear c9b2
     try clear c10
     try clear c15
     try clear c20
     try clear c25
     try clear c28
     try clear z_11
     try clear z_13
     try clear z_14
     try clear z_16
     try clear z_18
     try clear z_19
     try clear z_21
     try clear z_23
     try clear z_24
     try clear z_26
     try clear p2
     obtain ⟨x5_2,rfl,HA,HK2,BK210,BK211,HB⟩ := hrel
     cases gk with
     | zero => exact absurd HA.out (by simp [spec_SourceOk.l0])
     | succ k2 =>
      have H := HA.out
      clear HA
      simp only [spec_SourceOk.l0] at H
      by_cases c29 : x5_2 < (l1_0.length : Int)
      ·rw [if_pos c29] at H
       have c29b0 : decide (x5_2 < (l1_0.length : Int)) = true := decide_eq_true c29
       clear c29
       by_cases c30 : 0 ≤ x5_2
       ·rw [if_pos c30] at H
        have c30b0 : decide (0 ≤ x5_2) = true := decide_eq_true c30
        clear c30
        have HC31 := aM_ H
        clear H
        have hnb32 := NB211_210.out
        have hnc32 := NB210_211.out
        have z_33 := bR3_ BK211.out
        have p213 : 0 ≤ (x5_2 : Int) := of_decide_eq_true (by first | (with_reducible assumption) | assumption)
        have q213 : x5_2 < (l1_0.length : Int) := of_decide_eq_true (by first | (with_reducible assumption) | assumption)
        obtain ⟨ad213,A213_1,c213_1,e213,hx213_0,hx213_1,hx213_2,hl213_1,hi213_1⟩ := at_T107 HR1_0.out x5_2 p213 q213
        cases e213
        replace hx213_0 := cB_ HB.out hx213_0
        replace hx213_1 := cB_ HB.out hx213_1
        replace hx213_2 := cB_ HB.out hx213_2
        have HR213_1 := aM_ hi213_1
        have HC213_1 := aM_ hl213_1
        clear hi213_1 hl213_1
        replace p213 := eq_true p213
        replace q213 := eq_true q213
        go_upto_region 7 with (first | ((with_reducible refine gate_dst (N := 6) rfl ?_);(try (refine gate_guard (by rfl) ?_;dsimp only));refine bX_ 6 (cs := #[.int .i64 0,.slice none 0 0,.int .i64 0]) (t := 107) ?_;intro gb214 hg w34 hbox hb;have BK214 := aM_ (hbox);have GE214 := aM_ (sZ_ hg HB.out);have NB210_214 := aM_ (nL_ hg BK210.out);have NB214_210 := aM_ (nG_ hg BK210.out);have NB211_214 := aM_ (nL_ hg BK211.out);have NB214_211 := aM_ (nG_ hg BK211.out);replace BK210 := aM_ (nB_ BK210.out hb);replace BK211 := aM_ (nB_ BK211.out hb);replace HB := aM_ (sT_ HB.out hb);clear hb hbox hg;have hnb35 := NB214_210.out;have hnc35 := NB210_214.out;have hnb36 := NB214_211.out;have hnc36 := NB211_214.out;have z_37 := bR3_ BK214.out))
        (try simp only [Act.put,List.setIfInBounds_toArray,List.set_cons_zero,List.set_cons_succ])
        go_cut [70] (fun v70 wc => ∃ (kq : Nat) (x70_30 : Bool),v70 = .bool x70_30 ∧ Aside0 (spec_SourceOk.j2 kq x5_2 x70_30 l0_0 l0_1 l1_0 l1_1 l1_2 = some r) ∧ Aside0 (kq ≤ k2) ∧ Aside0 (wc.heap[gb210]? = some (.cells #[(.slice A0_0 l0_0.length c0_0),(.slice A0_1 l0_1.length c0_1)] 44 (0,0))) ∧ Aside0 (wc.heap[gb211]? = some (.cells #[(.slice (some ad213) l1_0.length c1_0),(.slice A1_1 l1_1.length c1_1),(.slice A1_2 l1_2.length c1_2)] 28 (0,0))) ∧ Aside0 (wc.heap[gb214]? = some (.cells #[.int .i64 ((rd_T107 l1_0 x5_2).f0),(.slice A213_1 ((rd_T107 l1_0 x5_2).f1).length c213_1),.int .i64 ((rd_T107 l1_0 x5_2).f2)] 107 (0,0))) ∧ Aside0 (Below w.heap.size w wc))
        case first =>
         have H := HC31.out
         clear HC31
         by_cases c38 : (((rd_T107 l1_0 x5_2).f1).length : Int) = 4
         ·rw [if_pos c38] at H
          have c38b0 : ((((rd_T107 l1_0 x5_2).f1).length : Int) == 4) = true := beq_iff_eq.mpr c38
          have c38b1 : ((((rd_T107 l1_0 x5_2).f1).length : Int) != 4) = false := bne_eq_false_iff_eq.mpr c38
          clear c38
          (first | rw [c38b0] | (simp only [i64_w,i32_w];rw [c38b0]) | skip)
          replace H := Option.bind_eq_some_iff.mp H
          obtain ⟨t215,A390,H⟩ := H
          replace H : (if t215 = true then (if x5_2 < (l0_1.length : Int) then ((spec_l1In.f ((rd_T107 l1_0 x5_2).f0) 0 (wrap64 (((rd_L4 l0_1 x5_2).length : Int) - 1))).bind fun t217 => (spec_SourceOk.j2 k2 x5_2 (!t217) l0_0 l0_1 l1_0 l1_1 l1_2)) else (none)) else (spec_SourceOk.j2 k2 x5_2 true l0_0 l0_1 l1_0 l1_1 l1_2)) = some r := H
          have A39 := aM_ A390
          clear A390
          by_cases c40 : t215 = true
          ·subst c40
           have H1 : (if x5_2 < (l0_1.length : Int) then ((spec_l1In.f ((rd_T107 l1_0 x5_2).f0) 0 (wrap64 (((rd_L4 l0_1 x5_2).length : Int) - 1))).bind fun t217 => (spec_SourceOk.j2 k2 x5_2 (!t217) l0_0 l0_1 l1_0 l1_1 l1_2)) else (none)) = some r := by rw [if_pos rfl] at H;exact H
           clear H
           have H := H1
           clear H1
           by_cases c41 : x5_2 < (l0_1.length : Int)
           ·rw [if_pos c41] at H
            have c41b0 : decide (x5_2 < (l0_1.length : Int)) = true := decide_eq_true c41
            clear c41
            replace H := Option.bind_eq_some_iff.mp H
            obtain ⟨t217,A420,H⟩ := H
            replace H : (spec_SourceOk.j2 k2 x5_2 (!t217) l0_0 l0_1 l1_0 l1_1 l1_2) = some r := H
            have A42 := aM_ A420
            clear A420
            have H' := aM_ H
            clear H
            try go_wp2
            have n0 : Aside0 ((((w34.setCell ⟨gb214,0,none⟩ (.int .i64 ((rd_T107 l1_0 x5_2).f0))).setCell ⟨gb214,1,none⟩ (.slice A213_1 ((rd_T107 l1_0 x5_2).f1).length c213_1)).setCell ⟨gb214,2,none⟩ (.int .i64 ((rd_T107 l1_0 x5_2).f2))).heap[gb210]? = some (.cells #[.slice A0_0 l0_0.length c0_0,.slice A0_1 l0_1.length c0_1] 44 (0,0))) := ⟨rWf_ BK210.out⟩
            have n1 : Aside0 ((((w34.setCell ⟨gb214,0,none⟩ (.int .i64 ((rd_T107 l1_0 x5_2).f0))).setCell ⟨gb214,1,none⟩ (.slice A213_1 ((rd_T107 l1_0 x5_2).f1).length c213_1)).setCell ⟨gb214,2,none⟩ (.int .i64 ((rd_T107 l1_0 x5_2).f2))).heap[gb211]? = some (.cells #[.slice (some ad213) l1_0.length c1_0,.slice A1_1 l1_1.length c1_1,.slice A1_2 l1_2.length c1_2] 28 (0,0))) := ⟨rWf_ BK211.out⟩
            have n2 : Aside0 ((((w34.setCell ⟨gb214,0,none⟩ (.int .i64 ((rd_T107 l1_0 x5_2).f0))).setCell ⟨gb214,1,none⟩ (.slice A213_1 ((rd_T107 l1_0 x5_2).f1).length c213_1)).setCell ⟨gb214,2,none⟩ (.int .i64 ((rd_T107 l1_0 x5_2).f2))).heap[gb214]? = some (.cells #[.int .i64 ((rd_T107 l1_0 x5_2).f0),.slice A213_1 ((rd_T107 l1_0 x5_2).f1).length c213_1,.int .i64 ((rd_T107 l1_0 x5_2).f2)] 107 (0,0))) := ⟨by (with_reducible repeat (first | refine bN_ ?_ _ | refine bD_ ?_ | refine bA_ ?_ _));refine blk_put (cs := #[.int .i64 ((rd_T107 l1_0 x5_2).f0),.slice A213_1 ((rd_T107 l1_0 x5_2).f1).length c213_1,.int .i64 0]) ?_ 2 _ rfl;refine blk_put (cs := #[.int .i64 ((rd_T107 l1_0 x5_2).f0),.slice none 0 0,.int .i64 0]) ?_ 1 _ rfl;refine blk_put (cs := #[.int .i64 0,.slice none 0 0,.int .i64 0]) ?_ 0 _ rfl;(with_reducible repeat (first | refine bN_ ?_ _ | refine bD_ ?_ | refine bA_ ?_ _));exact BK214.out⟩
            have n3 : Aside0 (Below w.heap.size w (((w34.setCell ⟨gb214,0,none⟩ (.int .i64 ((rd_T107 l1_0 x5_2).f0))).setCell ⟨gb214,1,none⟩ (.slice A213_1 ((rd_T107 l1_0 x5_2).f1).length c213_1)).setCell ⟨gb214,2,none⟩ (.int .i64 ((rd_T107 l1_0 x5_2).f2)))) := ⟨gW_ HB.out⟩
            (try clear BK210)
            (try clear BK211)
            (try clear BK214)
            (try clear HB)
            generalize (((w34.setCell ⟨gb214,0,none⟩ (.int .i64 ((rd_T107 l1_0 x5_2).f0))).setCell ⟨gb214,1,none⟩ (.slice A213_1 ((rd_T107 l1_0 x5_2).f1).length c213_1)).setCell ⟨gb214,2,none⟩ (.int .i64 ((rd_T107 l1_0 x5_2).f2))) = w43 at n0 n1 n2 n3 ⊢
            have BK210 := n0
            have BK211 := n1
            have BK214 := n2
            have HB := n3
            clear n0 n1 n2 n3
            replace BK210 := aM_ (blk_drew BK210.out)
            replace BK211 := aM_ (blk_drew BK211.out)
            replace BK214 := aM_ (blk_drew BK214.out)
            replace HB := aM_ (below_drew1 HB.out)
            have p216 : 0 ≤ (x5_2 : Int) := of_decide_eq_true (by first | (with_reducible assumption) | assumption)
            have q216 : x5_2 < (l0_1.length : Int) := of_decide_eq_true (by first | (with_reducible assumption) | assumption)
            obtain ⟨ad216,A216_0,c216_0,e216,hx216_0,hl216_0,hi216_0⟩ := at_L4 HR0_1.out x5_2 p216 q216
            have hw216_0 := hx216_0
            cases e216
            replace hx216_0 := cB_ HB.out hx216_0
            have HR216_0 := aM_ hi216_0
            have HC216_0 := aM_ hl216_0
            clear hi216_0 hl216_0
            replace p216 := eq_true p216
            replace q216 := eq_true q216
            refine start_ (n := 23) (S := fun w' => w'.cell? ⟨gb214,0,none⟩ = some (.int .i64 ((rd_T107 l1_0 x5_2).f0)) ∧ w'.cell? ⟨gb214,1,none⟩ = some (.slice A213_1 ((rd_T107 l1_0 x5_2).f1).length c213_1) ∧ w'.cell? ⟨gb214,2,none⟩ = some (.int .i64 ((rd_T107 l1_0 x5_2).f2)) ∧ w'.cell? ⟨gb210,0,none⟩ = some (.slice A0_0 l0_0.length c0_0) ∧ w'.cell? ⟨gb210,1,none⟩ = some (.slice (some ad216) l0_1.length c0_1) ∧ w'.cell? (ad216.add (x5_2).toNat) = some (.slice A216_0 (rd_L4 l0_1 x5_2).length c216_0)) (ds := []) (mk_ 23 0) (by kernel_rfl) rfl rfl ⟨(blk_cell BK214.out 0).trans rfl,(blk_cell BK214.out 1).trans rfl,(blk_cell BK214.out 2).trans rfl,(blk_cell BK210.out 0).trans rfl,(blk_cell BK210.out 1).trans rfl,(cB_ HB.out hw216_0 :)⟩ (fun hHeld => ?_);refine with_tabW spec_SourceOk.tab7 spec_SourceOk.bits7 (fun HT_ HW_ => ?_)
            generalize w43.drew = w44 at BK210 BK211 BK214 HB HR216_0 hx216_0 hHeld ⊢
            refine pU_ 0 48 (mk_ 23 1) ?_
            refine tK6_ 1 49 (mk_ 23 3) ?_
            refine pU_ 2 50 (mk_ 23 7) ?_
            refine pU_ 3 51 (mk_ 23 15) ?_
            refine pU_ 4 52 (mk_ 23 31) ?_
            refine pU_ 5 53 (mk_ 23 63) ?_
            refine tK6_ 6 54 (mk_ 23 127) ?_
            refine oN_ 7 55 (mk_ 23 255) (fun K hK => ?_)
            refine gO_ Try.func111 #[.int .i64 ((rd_T107 l1_0 x5_2).f2),.int .i64 0,.int .i64 2] ?_
            with_reducible refine (spec_l1In.calls ((rd_T107 l1_0 x5_2).f2) 0 2 true _ A39.out).mono ?_
            rintro e w' ⟨rfl,⟨nd,rfl⟩⟩
            refine ⟨_,rfl,?_⟩
            refine kO_ hK (some 55) ⟨(blk_cell BK214.out 0).trans rfl,(blk_cell BK214.out 1).trans rfl,(blk_cell BK214.out 2).trans rfl,(blk_cell BK210.out 0).trans rfl,(blk_cell BK210.out 1).trans rfl,(cB_ HB.out hw216_0 :)⟩ (fun hHeld => ?_)
            clear hK K
            refine pU_ 8 56 (mk_ 23 511) ?_
            refine pU_ 9 57 (mk_ 23 1023) ?_
            refine pU_ 10 58 (mk_ 23 2047) ?_
            refine pU_ 11 59 (mk_ 23 4095) ?_
            refine pU_ 13 61 (mk_ 23 12287) ?_
            refine pU_ 15 63 (mk_ 23 45055) ?_
            refine tK6_ 12 60 (mk_ 23 49151) ?_
            refine tK6_ 14 62 (mk_ 23 65535) ?_
            refine pU_ 16 64 (mk_ 23 131071) ?_
            refine tK6_ 17 65 (mk_ 23 262143) ?_
            refine pU_ 18 66 (mk_ 23 524287) ?_
            refine pU_ 19 67 (mk_ 23 1048575) ?_
            refine oN_ 20 68 (mk_ 23 2097151) (fun K hK => ?_)
            refine gO_ Try.func111 #[.int .i64 ((rd_T107 l1_0 x5_2).f0),.int .i64 0,.int .i64 (wrap64 (((rd_L4 l0_1 x5_2).length : Int) - 1))] ?_
            with_reducible refine (spec_l1In.calls ((rd_T107 l1_0 x5_2).f0) 0 (wrap64 (((rd_L4 l0_1 x5_2).length : Int) - 1)) t217 _ A42.out).mono ?_
            rintro e w' ⟨rfl,⟨nd,rfl⟩⟩
            refine ⟨_,rfl,?_⟩
            refine kO_ hK (some 68) ⟨(blk_cell BK214.out 0).trans rfl,(blk_cell BK214.out 1).trans rfl,(blk_cell BK214.out 2).trans rfl,(blk_cell BK210.out 0).trans rfl,(blk_cell BK210.out 1).trans rfl,(cB_ HB.out hw216_0 :)⟩ (fun hHeld => ?_)
            clear hK K
            refine pU_ 21 69 (mk_ 23 4194303) ?_
            refine pU_ 22 70 (mk_ 23 8388607) ?_
            refine done_ (done_of HT_.out (by kernel_rfl)) ?_
            try go_wp2
            go_meet
            case rel => exact ⟨_,(!t217),(by first | rfl | (simp;done) | (simp [*];done)),H',⟨by have := HJ2.out;have := HK2.out;first | omega | exact Nat.le_refl _⟩,⟨rW_ BK210.out⟩,⟨rW_ BK211.out⟩,⟨rW_ BK214.out⟩,⟨gW_ HB.out⟩⟩
           ·rw [if_neg c41] at H
            exact absurd H (by simp)
          ·replace c40 := Bool.eq_false_iff.mpr c40
           subst c40
           have H1 : (spec_SourceOk.j2 k2 x5_2 true l0_0 l0_1 l1_0 l1_1 l1_2) = some r := by rw [if_neg (show ¬ (false = true) by decide)] at H;exact H
           clear H
           have H := H1
           clear H1
           have H' := aM_ H
           clear H
           try go_wp2
           have n0 : Aside0 ((((w34.setCell ⟨gb214,0,none⟩ (.int .i64 ((rd_T107 l1_0 x5_2).f0))).setCell ⟨gb214,1,none⟩ (.slice A213_1 ((rd_T107 l1_0 x5_2).f1).length c213_1)).setCell ⟨gb214,2,none⟩ (.int .i64 ((rd_T107 l1_0 x5_2).f2))).heap[gb210]? = some (.cells #[.slice A0_0 l0_0.length c0_0,.slice A0_1 l0_1.length c0_1] 44 (0,0))) := ⟨rWf_ BK210.out⟩
           have n1 : Aside0 ((((w34.setCell ⟨gb214,0,none⟩ (.int .i64 ((rd_T107 l1_0 x5_2).f0))).setCell ⟨gb214,1,none⟩ (.slice A213_1 ((rd_T107 l1_0 x5_2).f1).length c213_1)).setCell ⟨gb214,2,none⟩ (.int .i64 ((rd_T107 l1_0 x5_2).f2))).heap[gb211]? = some (.cells #[.slice (some ad213) l1_0.length c1_0,.slice A1_1 l1_1.length c1_1,.slice A1_2 l1_2.length c1_2] 28 (0,0))) := ⟨rWf_ BK211.out⟩
           have n2 : Aside0 ((((w34.setCell ⟨gb214,0,none⟩ (.int .i64 ((rd_T107 l1_0 x5_2).f0))).setCell ⟨gb214,1,none⟩ (.slice A213_1 ((rd_T107 l1_0 x5_2).f1).length c213_1)).setCell ⟨gb214,2,none⟩ (.int .i64 ((rd_T107 l1_0 x5_2).f2))).heap[gb214]? = some (.cells #[.int .i64 ((rd_T107 l1_0 x5_2).f0),.slice A213_1 ((rd_T107 l1_0 x5_2).f1).length c213_1,.int .i64 ((rd_T107 l1_0 x5_2).f2)] 107 (0,0))) := ⟨by (with_reducible repeat (first | refine bN_ ?_ _ | refine bD_ ?_ | refine bA_ ?_ _));refine blk_put (cs := #[.int .i64 ((rd_T107 l1_0 x5_2).f0),.slice A213_1 ((rd_T107 l1_0 x5_2).f1).length c213_1,.int .i64 0]) ?_ 2 _ rfl;refine blk_put (cs := #[.int .i64 ((rd_T107 l1_0 x5_2).f0),.slice none 0 0,.int .i64 0]) ?_ 1 _ rfl;refine blk_put (cs := #[.int .i64 0,.slice none 0 0,.int .i64 0]) ?_ 0 _ rfl;(with_reducible repeat (first | refine bN_ ?_ _ | refine bD_ ?_ | refine bA_ ?_ _));exact BK214.out⟩
           have n3 : Aside0 (Below w.heap.size w (((w34.setCell ⟨gb214,0,none⟩ (.int .i64 ((rd_T107 l1_0 x5_2).f0))).setCell ⟨gb214,1,none⟩ (.slice A213_1 ((rd_T107 l1_0 x5_2).f1).length c213_1)).setCell ⟨gb214,2,none⟩ (.int .i64 ((rd_T107 l1_0 x5_2).f2)))) := ⟨gW_ HB.out⟩
           (try clear BK210)
           (try clear BK211)
           (try clear BK214)
           (try clear HB)
           generalize (((w34.setCell ⟨gb214,0,none⟩ (.int .i64 ((rd_T107 l1_0 x5_2).f0))).setCell ⟨gb214,1,none⟩ (.slice A213_1 ((rd_T107 l1_0 x5_2).f1).length c213_1)).setCell ⟨gb214,2,none⟩ (.int .i64 ((rd_T107 l1_0 x5_2).f2))) = w45 at n0 n1 n2 n3 ⊢
           have BK210 := n0
           have BK211 := n1
           have BK214 := n2
           have HB := n3
           clear n0 n1 n2 n3
           replace BK210 := aM_ (blk_drew BK210.out)
           replace BK211 := aM_ (blk_drew BK211.out)
           replace BK214 := aM_ (blk_drew BK214.out)
           replace HB := aM_ (below_drew1 HB.out)
           refine start_ (n := 23) (S := fun w' => w'.cell? ⟨gb214,0,none⟩ = some (.int .i64 ((rd_T107 l1_0 x5_2).f0)) ∧ w'.cell? ⟨gb214,1,none⟩ = some (.slice A213_1 ((rd_T107 l1_0 x5_2).f1).length c213_1) ∧ w'.cell? ⟨gb214,2,none⟩ = some (.int .i64 ((rd_T107 l1_0 x5_2).f2))) (ds := []) (mk_ 23 0) (by kernel_rfl) rfl rfl (bC3_ BK214.out) (fun hHeld => ?_);refine with_tabW spec_SourceOk.tab7 spec_SourceOk.bits7 (fun HT_ HW_ => ?_)
           generalize w45.drew = w46 at BK210 BK211 BK214 HB hHeld ⊢
           refine pU_ 0 48 (mk_ 23 1) ?_
           refine tK3_ 1 49 (mk_ 23 3) ?_
           refine pU_ 2 50 (mk_ 23 7) ?_
           refine pU_ 3 51 (mk_ 23 15) ?_
           refine pU_ 4 52 (mk_ 23 31) ?_
           refine pU_ 5 53 (mk_ 23 63) ?_
           refine tK3_ 6 54 (mk_ 23 127) ?_
           refine oN_ 7 55 (mk_ 23 255) (fun K hK => ?_)
           refine gO_ Try.func111 #[.int .i64 ((rd_T107 l1_0 x5_2).f2),.int .i64 0,.int .i64 2] ?_
           with_reducible refine (spec_l1In.calls ((rd_T107 l1_0 x5_2).f2) 0 2 false _ A39.out).mono ?_
           rintro e w' ⟨rfl,⟨nd,rfl⟩⟩
           refine ⟨_,rfl,?_⟩
           refine kO_ hK (some 55) (bC3_ BK214.out) (fun hHeld => ?_)
           clear hK K
           refine pU_ 8 56 (mk_ 23 511) ?_
           refine pU_ 9 57 (mk_ 23 1023) ?_
           refine pU_ 10 58 (mk_ 23 2047) ?_
           refine pX_ 11 59 (mk_ 23 4095) ?_
           refine pX_ 12 60 (mk_ 23 8191) ?_
           refine pX_ 13 61 (mk_ 23 16383) ?_
           refine pX_ 14 62 (mk_ 23 32767) ?_
           refine pX_ 15 63 (mk_ 23 65535) ?_
           refine pX_ 16 64 (mk_ 23 131071) ?_
           refine pX_ 17 65 (mk_ 23 262143) ?_
           refine pX_ 18 66 (mk_ 23 524287) ?_
           refine pX_ 19 67 (mk_ 23 1048575) ?_
           refine pX_ 20 68 (mk_ 23 2097151) ?_
           refine pX_ 21 69 (mk_ 23 4194303) ?_
           refine pU_ 22 70 (mk_ 23 8388607) ?_
           refine done_ (done_of HT_.out (by kernel_rfl)) ?_
           try go_wp2
           go_meet
           case rel => exact ⟨_,(true),(by first | rfl | (simp;done) | (simp [*];done)),H',⟨by have := HJ2.out;have := HK2.out;first | omega | exact Nat.le_refl _⟩,⟨rW_ BK210.out⟩,⟨rW_ BK211.out⟩,⟨rW_ BK214.out⟩,⟨gW_ HB.out⟩⟩
         ·rw [if_neg c38] at H
          have c38b0 : ((((rd_T107 l1_0 x5_2).f1).length : Int) == 4) = false := beq_eq_false_iff_ne.mpr c38
          have c38b1 : ((((rd_T107 l1_0 x5_2).f1).length : Int) != 4) = true := bne_iff_ne.mpr c38
          (first | rw [c38b0] | (simp only [i64_w,i32_w];rw [c38b0]) | skip)
          have H' := aM_ H
          clear H
          try go_wp2
          have n0 : Aside0 ((((w34.setCell ⟨gb214,0,none⟩ (.int .i64 ((rd_T107 l1_0 x5_2).f0))).setCell ⟨gb214,1,none⟩ (.slice A213_1 ((rd_T107 l1_0 x5_2).f1).length c213_1)).setCell ⟨gb214,2,none⟩ (.int .i64 ((rd_T107 l1_0 x5_2).f2))).heap[gb210]? = some (.cells #[.slice A0_0 l0_0.length c0_0,.slice A0_1 l0_1.length c0_1] 44 (0,0))) := ⟨rWf_ BK210.out⟩
          have n1 : Aside0 ((((w34.setCell ⟨gb214,0,none⟩ (.int .i64 ((rd_T107 l1_0 x5_2).f0))).setCell ⟨gb214,1,none⟩ (.slice A213_1 ((rd_T107 l1_0 x5_2).f1).length c213_1)).setCell ⟨gb214,2,none⟩ (.int .i64 ((rd_T107 l1_0 x5_2).f2))).heap[gb211]? = some (.cells #[.slice (some ad213) l1_0.length c1_0,.slice A1_1 l1_1.length c1_1,.slice A1_2 l1_2.length c1_2] 28 (0,0))) := ⟨rWf_ BK211.out⟩
          have n2 : Aside0 ((((w34.setCell ⟨gb214,0,none⟩ (.int .i64 ((rd_T107 l1_0 x5_2).f0))).setCell ⟨gb214,1,none⟩ (.slice A213_1 ((rd_T107 l1_0 x5_2).f1).length c213_1)).setCell ⟨gb214,2,none⟩ (.int .i64 ((rd_T107 l1_0 x5_2).f2))).heap[gb214]? = some (.cells #[.int .i64 ((rd_T107 l1_0 x5_2).f0),.slice A213_1 ((rd_T107 l1_0 x5_2).f1).length c213_1,.int .i64 ((rd_T107 l1_0 x5_2).f2)] 107 (0,0))) := ⟨by (with_reducible repeat (first | refine bN_ ?_ _ | refine bD_ ?_ | refine bA_ ?_ _));refine blk_put (cs := #[.int .i64 ((rd_T107 l1_0 x5_2).f0),.slice A213_1 ((rd_T107 l1_0 x5_2).f1).length c213_1,.int .i64 0]) ?_ 2 _ rfl;refine blk_put (cs := #[.int .i64 ((rd_T107 l1_0 x5_2).f0),.slice none 0 0,.int .i64 0]) ?_ 1 _ rfl;refine blk_put (cs := #[.int .i64 0,.slice none 0 0,.int .i64 0]) ?_ 0 _ rfl;(with_reducible repeat (first | refine bN_ ?_ _ | refine bD_ ?_ | refine bA_ ?_ _));exact BK214.out⟩
          have n3 : Aside0 (Below w.heap.size w (((w34.setCell ⟨gb214,0,none⟩ (.int .i64 ((rd_T107 l1_0 x5_2).f0))).setCell ⟨gb214,1,none⟩ (.slice A213_1 ((rd_T107 l1_0 x5_2).f1).length c213_1)).setCell ⟨gb214,2,none⟩ (.int .i64 ((rd_T107 l1_0 x5_2).f2)))) := ⟨gW_ HB.out⟩
          (try clear BK210)
          (try clear BK211)
          (try clear BK214)
          (try clear HB)
          generalize (((w34.setCell ⟨gb214,0,none⟩ (.int .i64 ((rd_T107 l1_0 x5_2).f0))).setCell ⟨gb214,1,none⟩ (.slice A213_1 ((rd_T107 l1_0 x5_2).f1).length c213_1)).setCell ⟨gb214,2,none⟩ (.int .i64 ((rd_T107 l1_0 x5_2).f2))) = w47 at n0 n1 n2 n3 ⊢
          have BK210 := n0
          have BK211 := n1
          have BK214 := n2
          have HB := n3
          clear n0 n1 n2 n3
          replace BK210 := aM_ (blk_drew BK210.out)
          replace BK211 := aM_ (blk_drew BK211.out)
          replace BK214 := aM_ (blk_drew BK214.out)
          replace HB := aM_ (below_drew1 HB.out)
          refine start_ (n := 23) (S := fun w' => w'.cell? ⟨gb214,0,none⟩ = some (.int .i64 ((rd_T107 l1_0 x5_2).f0)) ∧ w'.cell? ⟨gb214,1,none⟩ = some (.slice A213_1 ((rd_T107 l1_0 x5_2).f1).length c213_1) ∧ w'.cell? ⟨gb214,2,none⟩ = some (.int .i64 ((rd_T107 l1_0 x5_2).f2))) (ds := []) (mk_ 23 0) (by kernel_rfl) rfl rfl (bC3_ BK214.out) (fun hHeld => ?_);refine with_tabW spec_SourceOk.tab7 spec_SourceOk.bits7 (fun HT_ HW_ => ?_)
          generalize w47.drew = w48 at BK210 BK211 BK214 HB hHeld ⊢
          refine pU_ 0 48 (mk_ 23 1) ?_
          refine tK3_ 1 49 (mk_ 23 3) ?_
          refine pU_ 2 50 (mk_ 23 7) ?_
          refine pU_ 3 51 (mk_ 23 15) ?_
          refine pU_ 4 52 (mk_ 23 31) ?_
          refine pX_ 5 53 (mk_ 23 63) ?_
          refine pX_ 6 54 (mk_ 23 127) ?_
          refine pX_ 7 55 (mk_ 23 255) ?_
          refine pX_ 8 56 (mk_ 23 511) ?_
          refine pU_ 9 57 (mk_ 23 1023) ?_
          refine pU_ 10 58 (mk_ 23 2047) ?_
          refine pX_ 11 59 (mk_ 23 4095) ?_
          refine pX_ 12 60 (mk_ 23 8191) ?_
          refine pX_ 13 61 (mk_ 23 16383) ?_
          refine pX_ 14 62 (mk_ 23 32767) ?_
          refine pX_ 15 63 (mk_ 23 65535) ?_
          refine pX_ 16 64 (mk_ 23 131071) ?_
          refine pX_ 17 65 (mk_ 23 262143) ?_
          refine pX_ 18 66 (mk_ 23 524287) ?_
          refine pX_ 19 67 (mk_ 23 1048575) ?_
          refine pX_ 20 68 (mk_ 23 2097151) ?_
          refine pX_ 21 69 (mk_ 23 4194303) ?_
          refine pU_ 22 70 (mk_ 23 8388607) ?_
          refine done_ (done_of HT_.out (by kernel_rfl)) ?_
          try go_wp2
          go_meet
          case rel => exact ⟨_,(true),(by first | rfl | (simp;done) | (simp [*];done)),H',⟨by have := HJ2.out;have := HK2.out;first | omega | exact Nat.le_refl _⟩,⟨rW_ BK210.out⟩,⟨rW_ BK211.out⟩,⟨rW_ BK214.out⟩,⟨gW_ HB.out⟩⟩
        case rest =>
         clear HC31
         try clear c1
         try clear c2
         try clear p2
         try clear q2
         try clear hx2
         try clear c3
         try clear c4
         try clear p6
         try clear c11
         try clear c21
         try clear p21
         try clear q21
         try clear hx21
         try clear c38
         try clear c38b0
         try clear c38b1
         try clear c40
         try clear c41
         try clear c41b0
         try clear hx216_0
         try clear p216
         try clear q216
         obtain ⟨kq,x70_30,rfl,HA,HJ30,BK210,BK211,BK214,HB⟩ := hcut
         cases kq with
         | zero => exact absurd HA.out (by simp [spec_SourceOk.j2])
         | succ kj30 =>
          have H := HA.out
          clear HA
          simp only [spec_SourceOk.j2] at H
          by_cases c49 : x70_30 = true
          ·subst c49
           have H1 : (some false) = some r := by rw [if_pos rfl] at H;exact H
           clear H
           have H := H1
           clear H1
           obtain rfl := Option.some.inj H
           go_wp2
           go_ret
           exact fI_ HB.out
          ·replace c49 := Bool.eq_false_iff.mpr c49
           subst c49
           have H1 : (spec_SourceOk.l0 kj30 (wrap64 (x5_2 + 1)) l0_0 l0_1 l1_0 l1_1 l1_2) = some r := by rw [if_neg (show ¬ (false = true) by decide)] at H;exact H
           clear H
           have H := H1
           clear H1
           have H' := aM_ H
           clear H
           go_wp2
           go_roundg kj30
           case measure => have := HJ2.out;have := HK2.out;have := HJ30.out;omega
           case rel => exact ⟨(wrap64 (x5_2 + 1)),(by first | rfl | (simp;done) | (simp [*];done)),H',⟨by have := HJ2.out;have := HK2.out;have := HJ30.out;omega⟩,⟨rW_ BK210.out⟩,⟨rW_ BK211.out⟩,⟨gW_ HB.out⟩⟩
       ·rw [if_neg c30] at H
        exact absurd H (by simp)
      ·rw [if_neg c29] at H
       have c29b0 : decide (x5_2 < (l1_0.length : Int)) = false := decide_eq_false c29
       clear c29
       have H' := aM_ H
       clear H
       have hnb50 := NB211_210.out
       have hnc50 := NB210_211.out
       have z_51 := bR3_ BK211.out
       go_wp2
       go_loopg [7] k2 (fun kq v7 w' => ∃ (x7_3 : Int),v7 = .int .i64 x7_3 ∧ Aside0 (spec_SourceOk.l1 kq x7_3 l0_0 l0_1 l1_0 l1_1 l1_2 = some r) ∧ Aside0 (kq ≤ k2) ∧ Aside0 (w'.heap[gb210]? = some (.cells #[(.slice A0_0 l0_0.length c0_0),(.slice A0_1 l0_1.length c0_1)] 44 (0,0))) ∧ Aside0 (w'.heap[gb211]? = some (.cells #[(.slice A1_0 l1_0.length c1_0),(.slice A1_1 l1_1.length c1_1),(.slice A1_2 l1_2.length c1_2)] 28 (0,0))) ∧ Aside0 (Below w.heap.size w w'))
       case atStart => exact ⟨(0),(by first | rfl | (simp;done) | (simp [*];done)),H',⟨Nat.le_refl _⟩,⟨rW_ BK210.out⟩,⟨rW_ BK211.out⟩,⟨gW_ HB.out⟩⟩
       case round =>
        clear H'
        try clear c1
        try clear c2
        try clear p2
        try clear q2
        try clear hx2
        try clear c3
        try clear c4
        try clear c5
        try clear p6
        try clear c11
        try clear c21
        try clear p21
        try clear q21
        try clear hx21
        try clear c29
        try clear c29b0
        try clear c30
        try clear c38
        try clear c38b0
        try clear c38b1
        try clear c40
        try clear c41
        try clear c41b0
        try clear c49
        try clear c50
        try clear z_51
        try clear hx216_0
        try clear p2
        try clear p21
        try clear p216
        try clear p6
        try clear q2
        try clear q21
        try clear q216
        obtain ⟨x7_3,rfl,HA,HK3,BK210,BK211,HB⟩ := hrel
        cases gk with
        | zero => exact absurd HA.out (by simp [spec_SourceOk.l1])
        | succ k3 =>
         have H := HA.out
         clear HA
         simp only [spec_SourceOk.l1] at H
         by_cases c52 : x7_3 < (l1_1.length : Int)
         ·rw [if_pos c52] at H
          have c52b0 : decide (x7_3 < (l1_1.length : Int)) = true := decide_eq_true c52
          clear c52
          by_cases c53 : 0 ≤ x7_3
          ·rw [if_pos c53] at H
           have c53b0 : decide (0 ≤ x7_3) = true := decide_eq_true c53
           clear c53
           replace H := Option.bind_eq_some_iff.mp H
           obtain ⟨t219,A540,H⟩ := H
           replace H : (if t219 = true then (if x7_3 < (l0_0.length : Int) then (if ((rd_T94 l1_1 x7_3).f0) = (rd l0_0 x7_3) then (spec_SourceOk.l1 k3 (wrap64 (x7_3 + 1)) l0_0 l0_1 l1_0 l1_1 l1_2) else (some false)) else (none)) else (some false)) = some r := H
           have A54 := aM_ A540
           clear A540
           by_cases c55 : t219 = true
           ·subst c55
            have H1 : (if x7_3 < (l0_0.length : Int) then (if ((rd_T94 l1_1 x7_3).f0) = (rd l0_0 x7_3) then (spec_SourceOk.l1 k3 (wrap64 (x7_3 + 1)) l0_0 l0_1 l1_0 l1_1 l1_2) else (some false)) else (none)) = some r := by rw [if_pos rfl] at H;exact H
            clear H
            have H := H1
            clear H1
            by_cases c56 : x7_3 < (l0_0.length : Int)
            ·rw [if_pos c56] at H
             have c56b0 : decide (x7_3 < (l0_0.length : Int)) = true := decide_eq_true c56
             clear c56
             by_cases c57 : ((rd_T94 l1_1 x7_3).f0) = (rd l0_0 x7_3)
             ·rw [if_pos c57] at H
              have c57b0 : (((rd_T94 l1_1 x7_3).f0) == (rd l0_0 x7_3)) = true := beq_iff_eq.mpr c57
              have c57b1 : (((rd_T94 l1_1 x7_3).f0) != (rd l0_0 x7_3)) = false := bne_eq_false_iff_eq.mpr c57
              clear c57
              have H' := aM_ H
              clear H
              have hnb58 := NB211_210.out
              have hnc58 := NB210_211.out
              have z_59 := bR3_ BK211.out
              try go_wp2
              replace BK210 := aM_ (blk_drew BK210.out)
              replace BK211 := aM_ (blk_drew BK211.out)
              replace HB := aM_ (below_drew1 HB.out)
              have p218 : 0 ≤ (x7_3 : Int) := of_decide_eq_true (by first | (with_reducible assumption) | assumption)
              have q218 : x7_3 < (l1_1.length : Int) := of_decide_eq_true (by first | (with_reducible assumption) | assumption)
              obtain ⟨ad218,A218_1,c218_1,e218,hx218_0,hx218_1,hx218_2,hl218_1,hi218_1⟩ := at_T94 HR1_1.out x7_3 p218 q218
              have hw218_2 := hx218_2
              have hw218_1 := hx218_1
              have hw218_0 := hx218_0
              cases e218
              replace hx218_0 := cB_ HB.out hx218_0
              replace hx218_1 := cB_ HB.out hx218_1
              replace hx218_2 := cB_ HB.out hx218_2
              have HR218_1 := aM_ hi218_1
              have HC218_1 := aM_ hl218_1
              clear hi218_1 hl218_1
              replace p218 := eq_true p218
              replace q218 := eq_true q218
              have p220 : 0 ≤ (x7_3 : Int) := of_decide_eq_true (by first | (with_reducible assumption) | assumption)
              have q220 : x7_3 < (l1_1.length : Int) := of_decide_eq_true (by first | (with_reducible assumption) | assumption)
              obtain ⟨ad220,A220_1,c220_1,e220,hx220_0,hx220_1,hx220_2,hl220_1,hi220_1⟩ := at_T94 HR1_1.out x7_3 p220 q220
              have hw220_2 := hx220_2
              have hw220_1 := hx220_1
              have hw220_0 := hx220_0
              obtain rfl : ad218 = ad220 := (by injection e220)
              replace hx220_0 := cB_ HB.out hx220_0
              replace hx220_1 := cB_ HB.out hx220_1
              replace hx220_2 := cB_ HB.out hx220_2
              have HR220_1 := aM_ hi220_1
              have HC220_1 := aM_ hl220_1
              clear hi220_1 hl220_1
              replace p220 := eq_true p220
              replace q220 := eq_true q220
              have p221 : 0 ≤ (x7_3 : Int) := of_decide_eq_true (by first | (with_reducible assumption) | assumption)
              have q221 : x7_3 < (l0_0.length : Int) := of_decide_eq_true (by first | (with_reducible assumption) | assumption)
              obtain ⟨ad221,e221,hx221_0⟩ := Kd.at_int HR0_0.out x7_3 p221 q221
              have hw221_0 := hx221_0
              cases e221
              replace hx221_0 := cB_ HB.out hx221_0
              replace p221 := eq_true p221
              replace q221 := eq_true q221
              refine start_ (n := 21) (S := fun w' => w'.cell? ⟨gb211,0,none⟩ = some (.slice A1_0 l1_0.length c1_0) ∧ w'.cell? ⟨gb211,1,none⟩ = some (.slice (some ad218) l1_1.length c1_1) ∧ w'.cell? ⟨gb211,2,none⟩ = some (.slice A1_2 l1_2.length c1_2) ∧ w'.cell? ⟨gb210,0,none⟩ = some (.slice (some ad221) l0_0.length c0_0) ∧ w'.cell? ⟨gb210,1,none⟩ = some (.slice A0_1 l0_1.length c0_1) ∧ w'.cell? (ad218.add ((x7_3).toNat * 3)) = some (.int .i64 ((rd_T94 l1_1 x7_3).f0)) ∧ w'.cell? ⟨(ad218.add ((x7_3).toNat * 3)).block,(ad218.add ((x7_3).toNat * 3)).off + 1,none⟩ = some (.slice A218_1 ((rd_T94 l1_1 x7_3).f1).length c218_1) ∧ w'.cell? ⟨(ad218.add ((x7_3).toNat * 3)).block,(ad218.add ((x7_3).toNat * 3)).off + 2,none⟩ = some (.bool ((rd_T94 l1_1 x7_3).f2)) ∧ w'.cell? (ad218.add ((x7_3).toNat * 3)) = some (.int .i64 ((rd_T94 l1_1 x7_3).f0)) ∧ w'.cell? ⟨(ad218.add ((x7_3).toNat * 3)).block,(ad218.add ((x7_3).toNat * 3)).off + 1,none⟩ = some (.slice A220_1 ((rd_T94 l1_1 x7_3).f1).length c220_1) ∧ w'.cell? ⟨(ad218.add ((x7_3).toNat * 3)).block,(ad218.add ((x7_3).toNat * 3)).off + 2,none⟩ = some (.bool ((rd_T94 l1_1 x7_3).f2)) ∧ w'.cell? (ad221.add (x7_3).toNat) = some (.int .i64 (rd l0_0 x7_3))) (ds := []) (mk_ 21 0) (by kernel_rfl) rfl rfl ⟨(blk_cell BK211.out 0).trans rfl,(blk_cell BK211.out 1).trans rfl,(blk_cell BK211.out 2).trans rfl,(blk_cell BK210.out 0).trans rfl,(blk_cell BK210.out 1).trans rfl,(cB_ HB.out hw218_0 :),(cB_ HB.out hw218_1 :),(cB_ HB.out hw218_2 :),(cB_ HB.out hw220_0 :),(cB_ HB.out hw220_1 :),(cB_ HB.out hw220_2 :),(cB_ HB.out hw221_0 :)⟩ (fun hHeld => ?_);refine with_tabW spec_SourceOk.tab12 spec_SourceOk.bits12 (fun HT_ HW_ => ?_)
              generalize wr.drew = w60 at BK210 BK211 HB HR218_1 HR220_1 hx218_0 hx218_1 hx218_2 hx220_0 hx220_1 hx220_2 hx221_0 hHeld ⊢
              refine pU_ 0 78 (mk_ 21 1) ?_
              refine pU_ 2 80 (mk_ 21 5) ?_
              refine tK12_ 1 79 (mk_ 21 7) ?_
              refine pU_ 3 81 (mk_ 21 15) ?_
              refine tK12_ 4 82 (mk_ 21 31) ?_
              refine oN_ 5 83 (mk_ 21 63) (fun K hK => ?_)
              refine gO_ Try.func146 #[.agg #[.int .i64 ((rd_T94 l1_1 x7_3).f0),.slice A218_1 ((rd_T94 l1_1 x7_3).f1).length c218_1,.bool ((rd_T94 l1_1 x7_3).f2)]] ?_
              with_reducible refine (spec_ChanOk.calls ((rd_T94 l1_1 x7_3).f0) _ _ ((rd_T94 l1_1 x7_3).f1) ((rd_T94 l1_1 x7_3).f2) true _ ?side1 ?side2 A54.out).mono ?_
              (case side1 => exact cS_ (Kd.C_below HR218_1.out HB.out))
              (case side2 => exact HC218_1.out)
              rintro e w61 ⟨rfl,hb⟩
              refine ⟨_,rfl,?_⟩
              replace BK210 := aM_ (nB_ BK210.out hb)
              replace BK211 := aM_ (nB_ BK211.out hb)
              replace HB := aM_ (sT_ HB.out hb)
              (try clear hb)
              (try clear hb2)
              (try clear hk)
              (try clear hi)
              refine kO_ hK (some 83) ⟨(blk_cell BK211.out 0).trans rfl,(blk_cell BK211.out 1).trans rfl,(blk_cell BK211.out 2).trans rfl,(blk_cell BK210.out 0).trans rfl,(blk_cell BK210.out 1).trans rfl,(cB_ HB.out hw218_0 :),(cB_ HB.out hw218_1 :),(cB_ HB.out hw218_2 :),(cB_ HB.out hw220_0 :),(cB_ HB.out hw220_1 :),(cB_ HB.out hw220_2 :),(cB_ HB.out hw221_0 :)⟩ (fun hHeld => ?_)
              clear hK K
              refine pU_ 6 84 (mk_ 21 127) ?_
              refine pU_ 7 85 (mk_ 21 255) ?_
              refine pU_ 8 86 (mk_ 21 511) ?_
              refine pU_ 10 88 (mk_ 21 1535) ?_
              refine pU_ 14 92 (mk_ 21 17919) ?_
              refine pU_ 16 94 (mk_ 21 83455) ?_
              refine tK12_ 9 87 (mk_ 21 83967) ?_
              refine pU_ 11 89 (mk_ 21 86015) ?_
              refine pU_ 12 90 (mk_ 21 90111) ?_
              refine tK12_ 13 91 (mk_ 21 98303) ?_
              refine tK12_ 15 93 (mk_ 21 131071) ?_
              refine pU_ 17 95 (mk_ 21 262143) ?_
              refine tK12_ 18 96 (mk_ 21 524287) ?_
              refine pU_ 19 97 (mk_ 21 1048575) ?_
              refine pU_ 20 98 (mk_ 21 2097151) ?_
              refine done_ (done_of HT_.out (by kernel_rfl)) ?_
              try go_wp2
              go_roundg k3
              case measure => have := HJ2.out;have := HK2.out;have := HK3.out;omega
              case rel => exact ⟨(wrap64 (x7_3 + 1)),(by first | rfl | (simp;done) | (simp [*];done)),H',⟨by have := HJ2.out;have := HK2.out;have := HK3.out;omega⟩,⟨rW_ BK210.out⟩,⟨rW_ BK211.out⟩,⟨gW_ HB.out⟩⟩
             ·rw [if_neg c57] at H
              have c57b0 : (((rd_T94 l1_1 x7_3).f0) == (rd l0_0 x7_3)) = false := beq_eq_false_iff_ne.mpr c57
              have c57b1 : (((rd_T94 l1_1 x7_3).f0) != (rd l0_0 x7_3)) = true := bne_iff_ne.mpr c57
              obtain rfl := Option.some.inj H
              have hnb62 := NB211_210.out
              have hnc62 := NB210_211.out
              have z_63 := bR3_ BK211.out
              try go_wp2
              replace BK210 := aM_ (blk_drew BK210.out)
              replace BK211 := aM_ (blk_drew BK211.out)
              replace HB := aM_ (below_drew1 HB.out)
              have p218 : 0 ≤ (x7_3 : Int) := of_decide_eq_true (by first | (with_reducible assumption) | assumption)
              have q218 : x7_3 < (l1_1.length : Int) := of_decide_eq_true (by first | (with_reducible assumption) | assumption)
              obtain ⟨ad218,A218_1,c218_1,e218,hx218_0,hx218_1,hx218_2,hl218_1,hi218_1⟩ := at_T94 HR1_1.out x7_3 p218 q218
              have hw218_2 := hx218_2
              have hw218_1 := hx218_1
              have hw218_0 := hx218_0
              cases e218
              replace hx218_0 := cB_ HB.out hx218_0
              replace hx218_1 := cB_ HB.out hx218_1
              replace hx218_2 := cB_ HB.out hx218_2
              have HR218_1 := aM_ hi218_1
              have HC218_1 := aM_ hl218_1
              clear hi218_1 hl218_1
              replace p218 := eq_true p218
              replace q218 := eq_true q218
              have p220 : 0 ≤ (x7_3 : Int) := of_decide_eq_true (by first | (with_reducible assumption) | assumption)
              have q220 : x7_3 < (l1_1.length : Int) := of_decide_eq_true (by first | (with_reducible assumption) | assumption)
              obtain ⟨ad220,A220_1,c220_1,e220,hx220_0,hx220_1,hx220_2,hl220_1,hi220_1⟩ := at_T94 HR1_1.out x7_3 p220 q220
              have hw220_2 := hx220_2
              have hw220_1 := hx220_1
              have hw220_0 := hx220_0
              obtain rfl : ad218 = ad220 := (by injection e220)
              replace hx220_0 := cB_ HB.out hx220_0
              replace hx220_1 := cB_ HB.out hx220_1
              replace hx220_2 := cB_ HB.out hx220_2
              have HR220_1 := aM_ hi220_1
              have HC220_1 := aM_ hl220_1
              clear hi220_1 hl220_1
              replace p220 := eq_true p220
              replace q220 := eq_true q220
              have p221 : 0 ≤ (x7_3 : Int) := of_decide_eq_true (by first | (with_reducible assumption) | assumption)
              have q221 : x7_3 < (l0_0.length : Int) := of_decide_eq_true (by first | (with_reducible assumption) | assumption)
              obtain ⟨ad221,e221,hx221_0⟩ := Kd.at_int HR0_0.out x7_3 p221 q221
              have hw221_0 := hx221_0
              cases e221
              replace hx221_0 := cB_ HB.out hx221_0
              replace p221 := eq_true p221
              replace q221 := eq_true q221
              refine start_ (n := 21) (S := fun w' => w'.cell? ⟨gb211,0,none⟩ = some (.slice A1_0 l1_0.length c1_0) ∧ w'.cell? ⟨gb211,1,none⟩ = some (.slice (some ad218) l1_1.length c1_1) ∧ w'.cell? ⟨gb211,2,none⟩ = some (.slice A1_2 l1_2.length c1_2) ∧ w'.cell? ⟨gb210,0,none⟩ = some (.slice (some ad221) l0_0.length c0_0) ∧ w'.cell? ⟨gb210,1,none⟩ = some (.slice A0_1 l0_1.length c0_1) ∧ w'.cell? (ad218.add ((x7_3).toNat * 3)) = some (.int .i64 ((rd_T94 l1_1 x7_3).f0)) ∧ w'.cell? ⟨(ad218.add ((x7_3).toNat * 3)).block,(ad218.add ((x7_3).toNat * 3)).off + 1,none⟩ = some (.slice A218_1 ((rd_T94 l1_1 x7_3).f1).length c218_1) ∧ w'.cell? ⟨(ad218.add ((x7_3).toNat * 3)).block,(ad218.add ((x7_3).toNat * 3)).off + 2,none⟩ = some (.bool ((rd_T94 l1_1 x7_3).f2)) ∧ w'.cell? (ad218.add ((x7_3).toNat * 3)) = some (.int .i64 ((rd_T94 l1_1 x7_3).f0)) ∧ w'.cell? ⟨(ad218.add ((x7_3).toNat * 3)).block,(ad218.add ((x7_3).toNat * 3)).off + 1,none⟩ = some (.slice A220_1 ((rd_T94 l1_1 x7_3).f1).length c220_1) ∧ w'.cell? ⟨(ad218.add ((x7_3).toNat * 3)).block,(ad218.add ((x7_3).toNat * 3)).off + 2,none⟩ = some (.bool ((rd_T94 l1_1 x7_3).f2)) ∧ w'.cell? (ad221.add (x7_3).toNat) = some (.int .i64 (rd l0_0 x7_3))) (ds := []) (mk_ 21 0) (by kernel_rfl) rfl rfl ⟨(blk_cell BK211.out 0).trans rfl,(blk_cell BK211.out 1).trans rfl,(blk_cell BK211.out 2).trans rfl,(blk_cell BK210.out 0).trans rfl,(blk_cell BK210.out 1).trans rfl,(cB_ HB.out hw218_0 :),(cB_ HB.out hw218_1 :),(cB_ HB.out hw218_2 :),(cB_ HB.out hw220_0 :),(cB_ HB.out hw220_1 :),(cB_ HB.out hw220_2 :),(cB_ HB.out hw221_0 :)⟩ (fun hHeld => ?_);refine with_tabW spec_SourceOk.tab12 spec_SourceOk.bits12 (fun HT_ HW_ => ?_)
              generalize wr.drew = w64 at BK210 BK211 HB HR218_1 HR220_1 hx218_0 hx218_1 hx218_2 hx220_0 hx220_1 hx220_2 hx221_0 hHeld ⊢
              refine pU_ 0 78 (mk_ 21 1) ?_
              refine pU_ 2 80 (mk_ 21 5) ?_
              refine tK12_ 1 79 (mk_ 21 7) ?_
              refine pU_ 3 81 (mk_ 21 15) ?_
              refine tK12_ 4 82 (mk_ 21 31) ?_
              refine oN_ 5 83 (mk_ 21 63) (fun K hK => ?_)
              refine gO_ Try.func146 #[.agg #[.int .i64 ((rd_T94 l1_1 x7_3).f0),.slice A218_1 ((rd_T94 l1_1 x7_3).f1).length c218_1,.bool ((rd_T94 l1_1 x7_3).f2)]] ?_
              with_reducible refine (spec_ChanOk.calls ((rd_T94 l1_1 x7_3).f0) _ _ ((rd_T94 l1_1 x7_3).f1) ((rd_T94 l1_1 x7_3).f2) true _ ?side1 ?side2 A54.out).mono ?_
              (case side1 => exact cS_ (Kd.C_below HR218_1.out HB.out))
              (case side2 => exact HC218_1.out)
              rintro e w65 ⟨rfl,hb⟩
              refine ⟨_,rfl,?_⟩
              replace BK210 := aM_ (nB_ BK210.out hb)
              replace BK211 := aM_ (nB_ BK211.out hb)
              replace HB := aM_ (sT_ HB.out hb)
              (try clear hb)
              (try clear hb2)
              (try clear hk)
              (try clear hi)
              refine kO_ hK (some 83) ⟨(blk_cell BK211.out 0).trans rfl,(blk_cell BK211.out 1).trans rfl,(blk_cell BK211.out 2).trans rfl,(blk_cell BK210.out 0).trans rfl,(blk_cell BK210.out 1).trans rfl,(cB_ HB.out hw218_0 :),(cB_ HB.out hw218_1 :),(cB_ HB.out hw218_2 :),(cB_ HB.out hw220_0 :),(cB_ HB.out hw220_1 :),(cB_ HB.out hw220_2 :),(cB_ HB.out hw221_0 :)⟩ (fun hHeld => ?_)
              clear hK K
              refine pU_ 6 84 (mk_ 21 127) ?_
              refine pU_ 7 85 (mk_ 21 255) ?_
              refine pU_ 8 86 (mk_ 21 511) ?_
              refine pU_ 10 88 (mk_ 21 1535) ?_
              refine pU_ 14 92 (mk_ 21 17919) ?_
              refine pU_ 16 94 (mk_ 21 83455) ?_
              refine tK12_ 9 87 (mk_ 21 83967) ?_
              refine pU_ 11 89 (mk_ 21 86015) ?_
              refine pU_ 12 90 (mk_ 21 90111) ?_
              refine tK12_ 13 91 (mk_ 21 98303) ?_
              refine tK12_ 15 93 (mk_ 21 131071) ?_
              refine pU_ 17 95 (mk_ 21 262143) ?_
              refine tK12_ 18 96 (mk_ 21 524287) ?_
              refine pU_ 19 97 (mk_ 21 1048575) ?_
              refine pU_ 20 98 (mk_ 21 2097151) ?_
              refine done_ (done_of HT_.out (by kernel_rfl)) ?_
              try go_wp2
              go_ret
              exact fI_ HB.out
            ·rw [if_neg c56] at H
             exact absurd H (by simp)
           ·replace c55 := Bool.eq_false_iff.mpr c55
            subst c55
            have H1 : (some false) = some r := by rw [if_neg (show ¬ (false = true) by decide)] at H;exact H
            clear H
            have H := H1
            clear H1
            obtain rfl := Option.some.inj H
            have hnb66 := NB211_210.out
            have hnc66 := NB210_211.out
            have z_67 := bR3_ BK211.out
            try go_wp2
            replace BK210 := aM_ (blk_drew BK210.out)
            replace BK211 := aM_ (blk_drew BK211.out)
            replace HB := aM_ (below_drew1 HB.out)
            have p218 : 0 ≤ (x7_3 : Int) := of_decide_eq_true (by first | (with_reducible assumption) | assumption)
            have q218 : x7_3 < (l1_1.length : Int) := of_decide_eq_true (by first | (with_reducible assumption) | assumption)
            obtain ⟨ad218,A218_1,c218_1,e218,hx218_0,hx218_1,hx218_2,hl218_1,hi218_1⟩ := at_T94 HR1_1.out x7_3 p218 q218
            have hw218_2 := hx218_2
            have hw218_1 := hx218_1
            have hw218_0 := hx218_0
            cases e218
            replace hx218_0 := cB_ HB.out hx218_0
            replace hx218_1 := cB_ HB.out hx218_1
            replace hx218_2 := cB_ HB.out hx218_2
            have HR218_1 := aM_ hi218_1
            have HC218_1 := aM_ hl218_1
            clear hi218_1 hl218_1
            replace p218 := eq_true p218
            replace q218 := eq_true q218
            refine start_ (n := 21) (S := fun w' => w'.cell? ⟨gb211,0,none⟩ = some (.slice A1_0 l1_0.length c1_0) ∧ w'.cell? ⟨gb211,1,none⟩ = some (.slice (some ad218) l1_1.length c1_1) ∧ w'.cell? ⟨gb211,2,none⟩ = some (.slice A1_2 l1_2.length c1_2) ∧ w'.cell? (ad218.add ((x7_3).toNat * 3)) = some (.int .i64 ((rd_T94 l1_1 x7_3).f0)) ∧ w'.cell? ⟨(ad218.add ((x7_3).toNat * 3)).block,(ad218.add ((x7_3).toNat * 3)).off + 1,none⟩ = some (.slice A218_1 ((rd_T94 l1_1 x7_3).f1).length c218_1) ∧ w'.cell? ⟨(ad218.add ((x7_3).toNat * 3)).block,(ad218.add ((x7_3).toNat * 3)).off + 2,none⟩ = some (.bool ((rd_T94 l1_1 x7_3).f2))) (ds := []) (mk_ 21 0) (by kernel_rfl) rfl rfl ⟨(blk_cell BK211.out 0).trans rfl,(blk_cell BK211.out 1).trans rfl,(blk_cell BK211.out 2).trans rfl,(cB_ HB.out hw218_0 :),(cB_ HB.out hw218_1 :),(cB_ HB.out hw218_2 :)⟩ (fun hHeld => ?_);refine with_tabW spec_SourceOk.tab12 spec_SourceOk.bits12 (fun HT_ HW_ => ?_)
            generalize wr.drew = w68 at BK210 BK211 HB HR218_1 hx218_0 hx218_1 hx218_2 hHeld ⊢
            refine pU_ 0 78 (mk_ 21 1) ?_
            refine pU_ 2 80 (mk_ 21 5) ?_
            refine tK6_ 1 79 (mk_ 21 7) ?_
            refine pU_ 3 81 (mk_ 21 15) ?_
            refine tK6_ 4 82 (mk_ 21 31) ?_
            refine oN_ 5 83 (mk_ 21 63) (fun K hK => ?_)
            refine gO_ Try.func146 #[.agg #[.int .i64 ((rd_T94 l1_1 x7_3).f0),.slice A218_1 ((rd_T94 l1_1 x7_3).f1).length c218_1,.bool ((rd_T94 l1_1 x7_3).f2)]] ?_
            with_reducible refine (spec_ChanOk.calls ((rd_T94 l1_1 x7_3).f0) _ _ ((rd_T94 l1_1 x7_3).f1) ((rd_T94 l1_1 x7_3).f2) false _ ?side1 ?side2 A54.out).mono ?_
            (case side1 => exact cS_ (Kd.C_below HR218_1.out HB.out))
            (case side2 => exact HC218_1.out)
            rintro e w69 ⟨rfl,hb⟩
            refine ⟨_,rfl,?_⟩
            replace BK210 := aM_ (nB_ BK210.out hb)
            replace BK211 := aM_ (nB_ BK211.out hb)
            replace HB := aM_ (sT_ HB.out hb)
            (try clear hb)
            (try clear hb2)
            (try clear hk)
            (try clear hi)
            refine kO_ hK (some 83) ⟨(blk_cell BK211.out 0).trans rfl,(blk_cell BK211.out 1).trans rfl,(blk_cell BK211.out 2).trans rfl,(cB_ HB.out hw218_0 :),(cB_ HB.out hw218_1 :),(cB_ HB.out hw218_2 :)⟩ (fun hHeld => ?_)
            clear hK K
            refine pU_ 6 84 (mk_ 21 127) ?_
            refine pU_ 7 85 (mk_ 21 255) ?_
            refine pX_ 8 86 (mk_ 21 511) ?_
            refine pX_ 9 87 (mk_ 21 1023) ?_
            refine pX_ 10 88 (mk_ 21 2047) ?_
            refine pX_ 11 89 (mk_ 21 4095) ?_
            refine pX_ 12 90 (mk_ 21 8191) ?_
            refine pX_ 13 91 (mk_ 21 16383) ?_
            refine pX_ 14 92 (mk_ 21 32767) ?_
            refine pX_ 15 93 (mk_ 21 65535) ?_
            refine pX_ 16 94 (mk_ 21 131071) ?_
            refine pX_ 17 95 (mk_ 21 262143) ?_
            refine pX_ 18 96 (mk_ 21 524287) ?_
            refine pX_ 19 97 (mk_ 21 1048575) ?_
            refine pU_ 20 98 (mk_ 21 2097151) ?_
            refine done_ (done_of HT_.out (by kernel_rfl)) ?_
            try go_wp2
            go_ret
            exact fI_ HB.out
          ·rw [if_neg c53] at H
           exact absurd H (by simp)
         ·rw [if_neg c52] at H
          have c52b0 : decide (x7_3 < (l1_1.length : Int)) = false := decide_eq_false c52
          clear c52
          have H' := aM_ H
          clear H
          have hnb70 := NB211_210.out
          have hnc70 := NB210_211.out
          have z_71 := bR3_ BK211.out
          go_wp2
          go_loopg [8] k3 (fun kq v8 w' => ∃ (x8_4 : Int),v8 = .int .i64 x8_4 ∧ Aside0 (spec_SourceOk.l2 kq x8_4 l1_0 l1_1 l1_2 = some r) ∧ Aside0 (kq ≤ k3) ∧ Aside0 (w'.heap[gb210]? = some (.cells #[(.slice A0_0 l0_0.length c0_0),(.slice A0_1 l0_1.length c0_1)] 44 (0,0))) ∧ Aside0 (w'.heap[gb211]? = some (.cells #[(.slice A1_0 l1_0.length c1_0),(.slice A1_1 l1_1.length c1_1),(.slice A1_2 l1_2.length c1_2)] 28 (0,0))) ∧ Aside0 (Below w.heap.size w w'))
          case atStart => exact ⟨(0),(by first | rfl | (simp;done) | (simp [*];done)),H',⟨Nat.le_refl _⟩,⟨rW_ BK210.out⟩,⟨rW_ BK211.out⟩,⟨gW_ HB.out⟩⟩
          case round =>
           clear H'
           try clear c1
           try clear c2
           try clear p2
           try clear q2
           try clear hx2
           try clear c5
           try clear c6
           try clear p6
           try clear c7
           try clear c14
           try clear c21
           try clear p21
           try clear q21
           try clear hx21
           try clear c22
           try clear p22
           try clear q22
           try clear hx22
           try clear c52
           try clear c52b0
           try clear c53
           try clear c55
           try clear c56
           try clear c57
           try clear c57b0
           try clear c57b1
           try clear c62
           try clear p64
           try clear c66
           try clear c70
           try clear z_63
           try clear z_67
           try clear z_71
           try clear hx218_0
           try clear hx218_1
           try clear hx218_2
           try clear hx220_0
           try clear hx220_1
           try clear hx220_2
           try clear hx221_0
           try clear p218
           try clear p220
           try clear p221
           try clear q218
           try clear q220
           try clear q221
           obtain ⟨x8_4,rfl,HA,HK4,BK210,BK211,HB⟩ := hrel
           cases gk with
           | zero => exact absurd HA.out (by simp [spec_SourceOk.l2])
           | succ k4 =>
            have H := HA.out
            clear HA
            simp only [spec_SourceOk.l2] at H
            by_cases c72 : x8_4 < (l1_2.length : Int)
            ·rw [if_pos c72] at H
             have c72b0 : decide (x8_4 < (l1_2.length : Int)) = true := decide_eq_true c72
             clear c72
             by_cases c73 : 0 ≤ x8_4
             ·rw [if_pos c73] at H
              have c73b0 : decide (0 ≤ x8_4) = true := decide_eq_true c73
              clear c73
              replace H := Option.bind_eq_some_iff.mp H
              obtain ⟨t223,A740,H⟩ := H
              replace H : (if t223 = true then (spec_SourceOk.l2 k4 (wrap64 (x8_4 + 1)) l1_0 l1_1 l1_2) else (some false)) = some r := H
              have A74 := aM_ A740
              clear A740
              by_cases c75 : t223 = true
              ·subst c75
               have H1 : (spec_SourceOk.l2 k4 (wrap64 (x8_4 + 1)) l1_0 l1_1 l1_2) = some r := by rw [if_pos rfl] at H;exact H
               clear H
               have H := H1
               clear H1
               have H' := aM_ H
               clear H
               have hnb76 := NB211_210.out
               have hnc76 := NB210_211.out
               have z_77 := bR3_ BK211.out
               try go_wp2
               replace BK210 := aM_ (blk_drew BK210.out)
               replace BK211 := aM_ (blk_drew BK211.out)
               replace HB := aM_ (below_drew1 HB.out)
               have p222 : 0 ≤ (x8_4 : Int) := of_decide_eq_true (by first | (with_reducible assumption) | assumption)
               have q222 : x8_4 < (l1_2.length : Int) := of_decide_eq_true (by first | (with_reducible assumption) | assumption)
               obtain ⟨ad222,e222,hx222_0,hx222_1⟩ := at_T35 HR1_2.out x8_4 p222 q222
               have hw222_1 := hx222_1
               have hw222_0 := hx222_0
               cases e222
               replace hx222_0 := cB_ HB.out hx222_0
               replace hx222_1 := cB_ HB.out hx222_1
               replace p222 := eq_true p222
               replace q222 := eq_true q222
               refine start_ (n := 12) (S := fun w' => w'.cell? ⟨gb211,0,none⟩ = some (.slice A1_0 l1_0.length c1_0) ∧ w'.cell? ⟨gb211,1,none⟩ = some (.slice A1_1 l1_1.length c1_1) ∧ w'.cell? ⟨gb211,2,none⟩ = some (.slice (some ad222) l1_2.length c1_2) ∧ w'.cell? (ad222.add ((x8_4).toNat * 2)) = some (.int .i64 ((rd_T35 l1_2 x8_4).f0)) ∧ w'.cell? ⟨(ad222.add ((x8_4).toNat * 2)).block,(ad222.add ((x8_4).toNat * 2)).off + 1,none⟩ = some (.int .i64 ((rd_T35 l1_2 x8_4).f1))) (ds := []) (mk_ 12 0) (by kernel_rfl) rfl rfl ⟨(blk_cell BK211.out 0).trans rfl,(blk_cell BK211.out 1).trans rfl,(blk_cell BK211.out 2).trans rfl,(cB_ HB.out hw222_0 :),(cB_ HB.out hw222_1 :)⟩ (fun hHeld => ?_);refine with_tabW spec_SourceOk.tab17 spec_SourceOk.bits17 (fun HT_ HW_ => ?_)
               generalize wr.drew = w78 at BK210 BK211 HB hx222_0 hx222_1 hHeld ⊢
               refine pU_ 0 106 (mk_ 12 1) ?_
               refine pU_ 2 108 (mk_ 12 5) ?_
               refine pU_ 6 112 (mk_ 12 69) ?_
               refine tK5_ 1 107 (mk_ 12 71) ?_
               refine pU_ 3 109 (mk_ 12 79) ?_
               refine pU_ 4 110 (mk_ 12 95) ?_
               refine tK5_ 5 111 (mk_ 12 127) ?_
               refine tK5_ 7 113 (mk_ 12 255) ?_
               refine pU_ 8 114 (mk_ 12 511) ?_
               refine pU_ 9 115 (mk_ 12 1023) ?_
               refine oN_ 10 116 (mk_ 12 2047) (fun K hK => ?_)
               refine gO_ Try.func111 #[.int .i64 ((rd_T35 l1_2 x8_4).f0),.int .i64 0,.int .i64 (wrap64 ((l1_0.length : Int) - 1))] ?_
               with_reducible refine (spec_l1In.calls ((rd_T35 l1_2 x8_4).f0) 0 (wrap64 ((l1_0.length : Int) - 1)) true _ A74.out).mono ?_
               rintro e w' ⟨rfl,⟨nd,rfl⟩⟩
               refine ⟨_,rfl,?_⟩
               refine kO_ hK (some 116) ⟨(blk_cell BK211.out 0).trans rfl,(blk_cell BK211.out 1).trans rfl,(blk_cell BK211.out 2).trans rfl,(cB_ HB.out hw222_0 :),(cB_ HB.out hw222_1 :)⟩ (fun hHeld => ?_)
               clear hK K
               refine pU_ 11 117 (mk_ 12 4095) ?_
               refine done_ (done_of HT_.out (by kernel_rfl)) ?_
               try go_wp2
               go_roundg k4
               case measure => have := HJ2.out;have := HK2.out;have := HK3.out;have := HK4.out;omega
               case rel => exact ⟨(wrap64 (x8_4 + 1)),(by first | rfl | (simp;done) | (simp [*];done)),H',⟨by have := HJ2.out;have := HK2.out;have := HK3.out;have := HK4.out;omega⟩,⟨rW_ BK210.out⟩,⟨rW_ BK211.out⟩,⟨gW_ HB.out⟩⟩
              ·replace c75 := Bool.eq_false_iff.mpr c75
               subst c75
               have H1 : (some false) = some r := by rw [if_neg (show ¬ (false = true) by decide)] at H;exact H
               clear H
               have H := H1
               clear H1
               obtain rfl := Option.some.inj H
               have hnb79 := NB211_210.out
               have hnc79 := NB210_211.out
               have z_80 := bR3_ BK211.out
               try go_wp2
               replace BK210 := aM_ (blk_drew BK210.out)
               replace BK211 := aM_ (blk_drew BK211.out)
               replace HB := aM_ (below_drew1 HB.out)
               have p222 : 0 ≤ (x8_4 : Int) := of_decide_eq_true (by first | (with_reducible assumption) | assumption)
               have q222 : x8_4 < (l1_2.length : Int) := of_decide_eq_true (by first | (with_reducible assumption) | assumption)
               obtain ⟨ad222,e222,hx222_0,hx222_1⟩ := at_T35 HR1_2.out x8_4 p222 q222
               have hw222_1 := hx222_1
               have hw222_0 := hx222_0
               cases e222
               replace hx222_0 := cB_ HB.out hx222_0
               replace hx222_1 := cB_ HB.out hx222_1
               replace p222 := eq_true p222
               replace q222 := eq_true q222
               refine start_ (n := 12) (S := fun w' => w'.cell? ⟨gb211,0,none⟩ = some (.slice A1_0 l1_0.length c1_0) ∧ w'.cell? ⟨gb211,1,none⟩ = some (.slice A1_1 l1_1.length c1_1) ∧ w'.cell? ⟨gb211,2,none⟩ = some (.slice (some ad222) l1_2.length c1_2) ∧ w'.cell? (ad222.add ((x8_4).toNat * 2)) = some (.int .i64 ((rd_T35 l1_2 x8_4).f0)) ∧ w'.cell? ⟨(ad222.add ((x8_4).toNat * 2)).block,(ad222.add ((x8_4).toNat * 2)).off + 1,none⟩ = some (.int .i64 ((rd_T35 l1_2 x8_4).f1))) (ds := []) (mk_ 12 0) (by kernel_rfl) rfl rfl ⟨(blk_cell BK211.out 0).trans rfl,(blk_cell BK211.out 1).trans rfl,(blk_cell BK211.out 2).trans rfl,(cB_ HB.out hw222_0 :),(cB_ HB.out hw222_1 :)⟩ (fun hHeld => ?_);refine with_tabW spec_SourceOk.tab17 spec_SourceOk.bits17 (fun HT_ HW_ => ?_)
               generalize wr.drew = w81 at BK210 BK211 HB hx222_0 hx222_1 hHeld ⊢
               refine pU_ 0 106 (mk_ 12 1) ?_
               refine pU_ 2 108 (mk_ 12 5) ?_
               refine pU_ 6 112 (mk_ 12 69) ?_
               refine tK5_ 1 107 (mk_ 12 71) ?_
               refine pU_ 3 109 (mk_ 12 79) ?_
               refine pU_ 4 110 (mk_ 12 95) ?_
               refine tK5_ 5 111 (mk_ 12 127) ?_
               refine tK5_ 7 113 (mk_ 12 255) ?_
               refine pU_ 8 114 (mk_ 12 511) ?_
               refine pU_ 9 115 (mk_ 12 1023) ?_
               refine oN_ 10 116 (mk_ 12 2047) (fun K hK => ?_)
               refine gO_ Try.func111 #[.int .i64 ((rd_T35 l1_2 x8_4).f0),.int .i64 0,.int .i64 (wrap64 ((l1_0.length : Int) - 1))] ?_
               with_reducible refine (spec_l1In.calls ((rd_T35 l1_2 x8_4).f0) 0 (wrap64 ((l1_0.length : Int) - 1)) false _ A74.out).mono ?_
               rintro e w' ⟨rfl,⟨nd,rfl⟩⟩
               refine ⟨_,rfl,?_⟩
               refine kO_ hK (some 116) ⟨(blk_cell BK211.out 0).trans rfl,(blk_cell BK211.out 1).trans rfl,(blk_cell BK211.out 2).trans rfl,(cB_ HB.out hw222_0 :),(cB_ HB.out hw222_1 :)⟩ (fun hHeld => ?_)
               clear hK K
               refine pU_ 11 117 (mk_ 12 4095) ?_
               refine done_ (done_of HT_.out (by kernel_rfl)) ?_
               try go_wp2
               go_ret
               exact fI_ HB.out
             ·rw [if_neg c73] at H
              exact absurd H (by simp)
            ·rw [if_neg c72] at H
             have c72b0 : decide (x8_4 < (l1_2.length : Int)) = false := decide_eq_false c72
             clear c72
             obtain rfl := Option.some.inj H
             have hnb82 := NB211_210.out
             have hnc82 := NB210_211.out
             have z_83 := bR3_ BK211.out
             go_wp2
             go_ret
             exact fI_ HB.out
end Go.Proofs.Ytobachfngmpeiaa.PFnExactStuck
namespace Go.Proofs.Ytobachfngmpeiaa.PFnExactStuck
open Go.RowKit Go.Proofs.YtobachfngmpeiaaW.PrintWords Go.Proofs.YtobachfngmpeiaaW.PrintLast Go.Proofs.YtobachfngmpeiaaW.PrintMore
attribute [local go_sem] max2_int min2_int max_two min_two max_three min_three max_four min_four   -- for this text's walks alone
set_option linter.unusedVariables false
set_option linter.unusedSimpArgs false
def spec_l3Copy.f (a0_0 : Int) (l0_1 : List Int) (a0_2 : Bool) : Option (Int × List Int × Bool) := (some (([] : List Int) : List Int)).bind fun y226 => (if y226.length + l0_1.length < 17592186044416 then (some (a0_0,(y226 ++ l0_1),a0_2)) else (none))
def spec_l3Copy.T1 : Bool × List (List Nat × List Nat) := (true,[([],[]),([0],[0]),([],[]),([],[]),([3],[3]),([2,4],[2,4]),([],[]),([6],[6]),([1,5,7],[1,5,7]),([8,5,0,1,2,3,4,5,6,7,8],[8])])
def spec_l3Copy.B1 : List Nat := [0,1,0,0,8,28,0,64,255,511]
theorem spec_l3Copy.tab1 : rtab .any (opsOf Try.f171 1) = spec_l3Copy.T1 := by kernel_rfl
theorem spec_l3Copy.bits1 : waitsOk spec_l3Copy.T1.2 spec_l3Copy.B1 = true := by kernel_rfl
set_option maxHeartbeats 8000000 in
set_option maxRecDepth 100000 in
theorem spec_l3Copy.calls (a0_0 : Int) (A0_1 : Option Addr) (c0_1 : Nat) (l0_1 : List Int) (a0_2 : Bool) (r1 : Int) (r2 : List Int) (r3 : Bool) (w : World) (hr0_1 : Kd.C (Kd.int .i64) w A0_1 l0_1.length l0_1) (hc0_1 : l0_1.length ≤ c0_1) (h : spec_l3Copy.f a0_0 l0_1 a0_2 = some (r1,r2,r3)) :
  Calls Try.prog 171 #[.agg #[.int .i64 a0_0,.slice A0_1 l0_1.length c0_1,.bool a0_2]] w fun e w' => ∃ v1_ : Value,e = .returned (.agg #[.int .i64 r1,v1_,.bool r3]) ∧ Kd.R (Kd.int .i64) 3 w' w.heap.size (fun _ => True) v1_ r2 ∧ Below w.heap.size w w' := by
 have hu94 := Try.underlying94
 have HR0_1 := aM_ hr0_1
 have HC0_1 := aM_ hc0_1
 clear hr0_1 hc0_1
 have HB := aM_ (Below.refl w.heap.size w)
 have H : ((some (([] : List Int) : List Int)).bind fun y226 => (if y226.length + l0_1.length < 17592186044416 then (some (a0_0,(y226 ++ l0_1),a0_2)) else (none))) = some (r1,r2,r3) := h
 clear h
 obtain ⟨y226,hy226⟩ : ∃ y_ : List Int,y_ = (([] : List Int)) := ⟨_,rfl⟩
 replace H : (if y226.length + l0_1.length < 17592186044416 then (some (a0_0,(y226 ++ l0_1),a0_2)) else (none)) = some (r1,r2,r3) := by first | (rw [hy226];with_reducible exact H) | (have H2_ := (Option.bind_some _ _).symm.trans H;rw [hy226];with_reducible exact H2_) | (have H2_ := (Option.bind_some _ _).symm.trans H;with_reducible exact H2_) | with_reducible exact H | (rw [hy226];exact H) | exact H
 have Ny226 := aM_ hy226
 clear hy226
 by_cases c2 : y226.length + l0_1.length < 17592186044416
 ·rw [if_pos c2] at H
  have LMc2 := aM_ c2
  clear c2
  obtain ⟨y229,hy229⟩ : ∃ y_ : List Int,y_ = (y226 ++ l0_1) := ⟨_,rfl⟩
  replace H : (some (a0_0,y229,a0_2)) = some (r1,r2,r3) := by first | (rw [hy229];with_reducible exact H) | (have H2_ := (Option.bind_some _ _).symm.trans H;rw [hy229];with_reducible exact H2_) | (have H2_ := (Option.bind_some _ _).symm.trans H;with_reducible exact H2_) | with_reducible exact H | (rw [hy229];exact H) | exact H
  have Ny229 := aM_ hy229
  clear hy229
  simp only [Option.some.injEq,Prod.mk.injEq] at H
  obtain ⟨rfl,rfl,rfl⟩ := H
  go_enter Try.func171,Try.ntmps171
  try go_wp2_with (first | ((with_reducible refine gate_dst (N := 1) rfl ?_);refine bX_ 1 (cs := #[.int .i64 a0_0,.slice A0_1 l0_1.length c0_1,.bool a0_2]) (t := 94) ?_;intro gb224 hg w3 hbox hb;have BK224 := aM_ (hbox);have GE224 := aM_ (sZ_ hg HB.out);replace HB := aM_ (sT_ HB.out hb);clear hb hbox hg) | ((with_reducible refine gate_dst (N := 2) rfl ?_);refine bX_ 2 (cs := #[.int .i64 0,.slice none 0 0,.bool false]) (t := 94) ?_;intro gb225 hg w4 hbox hb;have BK225 := aM_ (hbox);have GE225 := aM_ (sZ_ hg HB.out);have NB224_225 := aM_ (nL_ hg BK224.out);have NB225_224 := aM_ (nG_ hg BK224.out);replace BK224 := aM_ (nB_ BK224.out hb);replace HB := aM_ (sT_ HB.out hb);clear hb hbox hg))
  replace BK224 := aM_ (blk_drew BK224.out)
  replace BK225 := aM_ (blk_drew BK225.out)
  replace HB := aM_ (below_drew1 HB.out)
  refine start_ (n := 10) (S := fun w' => w'.cell? ⟨gb224,0,none⟩ = some (.int .i64 a0_0) ∧ w'.cell? ⟨gb224,1,none⟩ = some (.slice A0_1 l0_1.length c0_1) ∧ w'.cell? ⟨gb224,2,none⟩ = some (.bool a0_2)) (ds := []) (mk_ 10 0) (by kernel_rfl) rfl rfl (bC3_ BK224.out) (fun hHeld => ?_);refine with_tabW spec_l3Copy.tab1 spec_l3Copy.bits1 (fun HT_ HW_ => ?_)
  generalize w4.drew = w5 at BK224 BK225 HB hHeld ⊢
  refine pU_ 0 3 (mk_ 10 1) ?_
  refine pU_ 3 6 (mk_ 10 9) ?_
  refine pU_ 6 9 (mk_ 10 73) ?_
  refine tK3_ 1 4 (mk_ 10 75) ?_
  refine tK3_ 4 7 (mk_ 10 91) ?_
  refine tK3_ 7 10 (mk_ 10 219) ?_
  refine oN_ 2 5 (mk_ 10 223) (fun K hK => ?_)
  refine Kd.R_lit_step (Kd.int .i64) _ 3 ?hg (N := 5) ?hd (xs := ([] : List Int)) (inner := []) (ok := fun _ => True) (okp := fun _ => True) ?hr ?hp (fun _ hk => hk) trivial (Below.refl _ _) (Nat.le_refl _) (by simp) ?_;(case hd => rfl);(case hg => rfl);(case hr => first | (go_simp;done) | (go_simp;rfl));(case hp => exact (Reps.none _ _))
  intro v227 w6 ho7 hb hg_ hnew_
  clear hg_ hnew_
  (first | rw [← Ny226.out] at ho7 | (simp only [Int.reduceToNat] at ho7;rw [← Ny226.out] at ho7))
  have HO228 := aM_ (Kd.R_lower ho7 (below_size (gB_ HB.out)))
  replace BK224 := aM_ (nB_ BK224.out hb)
  replace BK225 := aM_ (nB_ BK225.out hb)
  replace HB := aM_ (sT_ HB.out hb)
  clear hb ho7
  refine kO_ hK (some 5) (bC3_ BK224.out) (fun hHeld => ?_)
  clear hK K
  refine oN_ 5 8 (mk_ 10 255) (fun K hK => ?_)
  refine Kd.R_append_rows_step (Kd.int .i64) (w0 := w) w.heap.size (by rfl) (.tmp 5) (.tmp 7) 31 3 (.int .i64 0) 8 rfl Try.underlying31 info3 rfl (by decide) (by omega) v227 y226 l0_1 _ _ _ (fun _ => True) (fun _ => False) rfl rfl ?aO ?aR (fun _ _ h => h) (fun _ h => h.elim) ?aF ?aB ?aS ?aL ?_
  (case aR => repeat (first | exact (Kd.C_below HR0_1.out HB.out) | (with_reducible refine Kd.C_alloc ?_ _) | (with_reducible refine Kd.C_drewN ?_ _) | (with_reducible refine Kd.C_drew ?_)))
  (case aB => exact (gB_ HB.out))
  (case aF => exact (fun _ _ => trivial))
  (case aO => exact (by (with_reducible repeat (first | apply rA_ | apply rN_ | apply rD_));exact HO228.out))
  (case aS => exact (below_size (gB_ HB.out)))
  (case aL => have := LMc2.out;omega)
  intro v230 w8 ho hb hg hat
  rw [← Ny229.out] at ho
  have HO231 := aM_ (ho)
  replace BK224 := aM_ (blk_grown (g := gb224) (o := .cells #[.int .i64 a0_0,.slice A0_1 l0_1.length c0_1,.bool a0_2] 94 (0,0)) (by (with_reducible repeat (first | refine bN_ ?_ _ | refine bD_ ?_ | refine bA_ ?_ _));exact BK224.out) hg (Kd.R_ne HO228.out BK224.out (by decide)))
  replace BK225 := aM_ (blk_grown (g := gb225) (o := .cells #[.int .i64 0,.slice none 0 0,.bool false] 94 (0,0)) (by (with_reducible repeat (first | refine bN_ ?_ _ | refine bD_ ?_ | refine bA_ ?_ _));exact BK225.out) hg (Kd.R_ne HO228.out BK225.out (by decide)))
  replace HB := aM_ (hb)
  clear HO228
  clear ho hb hg hat
  obtain ⟨Ao9,co9,eo9⟩ := Kd.R_slice HO231.out
  (first | subst eo9 | (injection eo9 with f1_ f2_ f3_;have f4_ := f1_.symm;have f5_ := f3_.symm;clear f1_ f2_ f3_;subst f4_;subst f5_))
  refine kO_ hK (some 8) (bC3_ BK224.out) (fun hHeld => ?_)
  clear hK K
  refine pU_ 8 11 (mk_ 10 511) ?_
  refine oNn_ 9 (none) (mk_ 10 1023) (fun K hK => ?_)
  have hs10 : w8.cell? ⟨gb225,0,none⟩ = some (.int .i64 0) := (blk_cell BK225.out 0).trans rfl
  have hfs10 := blk_frozen BK225.out 0
  have hns10_0 := NB224_225.out
  have hms10_0 := NB225_224.out
  have hs11 : w8.cell? ⟨gb225,1,none⟩ = some (.slice none 0 0) := (blk_cell BK225.out 1).trans rfl
  have hfs11 := blk_frozen BK225.out 1
  have hns11_0 := NB224_225.out
  have hms11_0 := NB225_224.out
  have hs12 : w8.cell? ⟨gb225,2,none⟩ = some (.bool false) := (blk_cell BK225.out 2).trans rfl
  have hfs12 := blk_frozen BK225.out 2
  have hns12_0 := NB224_225.out
  have hms12_0 := NB225_224.out
  refine skip_ (w1 := ?_) (by rfl) rfl ?_ ?_
  rotate_left
  ·go_simp
   rfl
  refine hK.out _ _ ⟨((cell_far (p := ⟨gb225,_,none⟩) NB224_225.out _).trans (((cell_far (p := ⟨gb225,_,none⟩) NB224_225.out _).trans ((cf_ NB224_225.out hHeld.1))))),((cell_far (p := ⟨gb225,_,none⟩) NB224_225.out _).trans (((cell_far (p := ⟨gb225,_,none⟩) NB224_225.out _).trans ((cf_ NB224_225.out hHeld.2.1))))),((cell_far (p := ⟨gb225,_,none⟩) NB224_225.out _).trans (((cell_far (p := ⟨gb225,_,none⟩) NB224_225.out _).trans ((cf_ NB224_225.out hHeld.2.2)))))⟩ (fun hHeld => ?_)
  clear hK K
  refine done_ (done_of HT_.out (by kernel_rfl)) ?_
  try go_wp2
  refine bodyPost_ret (results_cell_row rfl _ _ gb225 94 #[.int .i64 a0_0,.slice Ao9 y229.length co9,.bool a0_2] (0,0) _ rfl (by (with_reducible repeat (first | refine bN_ ?_ _ | refine bD_ ?_ | refine bA_ ?_ _));refine blk_put (cs := #[.int .i64 a0_0,.slice Ao9 y229.length co9,.bool false]) ?_ 2 _ rfl;refine blk_put (cs := #[.int .i64 a0_0,.slice none 0 0,.bool false]) ?_ 1 _ rfl;refine blk_put (cs := #[.int .i64 0,.slice none 0 0,.bool false]) ?_ 0 _ rfl;exact rW_ BK225.out) Try.underlying94 rfl (by kernel_rfl)) rfl ?_
  exact ⟨_,fR_,by (with_reducible repeat (first | apply rA_ | apply rN_ | apply rD_));exact Kd.R_mono (Kd.R_far (p := ⟨gb225,2,none⟩) (Kd.R_far (p := ⟨gb225,1,none⟩) (Kd.R_far (p := ⟨gb225,0,none⟩) (Kd.R_types HO231.out BK225.out (by decide)) (fun _ hk => hk.2) (.int .i64 a0_0)) (fun _ hk => hk.2) (.slice Ao9 y229.length co9)) (fun _ hk => hk.2) (.bool a0_2)) (fun _ hk => trivial),gB_ HB.out⟩
 ·rw [if_neg c2] at H
  exact absurd H (by simp)
mutual
def spec_l4Copy.l0 : Nat → Int → List (S107) → List (S94) → List (S35) → List (S107) → List (S35) → Option ((List (S107)) × (List (S94)) × (List (S35)))
  | 0,_,_,_,_,_,_ => none
  | k + 1,x4,x233000,x233001,x233002,x241000,x241002 => if x4 < (x233000.length : Int) then (if 0 ≤ x4 then ((some (([] : List Int) : List Int)).bind fun y243 => (if y243.length + ((rd_T107 x233000 x4).f1).length < 17592186044416 then (if x241000.length < 3518437208883 then (spec_l4Copy.l0 k (wrap64 (x4 + 1)) x233000 x233001 x233002 (x241000 ++ [(⟨(rd_T107 x233000 x4).f0,(y243 ++ ((rd_T107 x233000 x4).f1)),(rd_T107 x233000 x4).f2⟩ : S107)]) x241002) else (none)) else (none))) else (none)) else (spec_l4Copy.l1 k 0 x233000 x233001 x233002 x241000 ([] : List (S94)) x241002)
def spec_l4Copy.l1 : Nat → Int → List (S107) → List (S94) → List (S35) → List (S107) → List (S94) → List (S35) → Option ((List (S107)) × (List (S94)) × (List (S35)))
  | 0,_,_,_,_,_,_,_ => none
  | k + 1,x6,x233000,x233001,x233002,x241000,x241001,x241002 => if x6 < (x233001.length : Int) then (if 0 ≤ x6 then ((spec_l3Copy.f ((rd_T94 x233001 x6).f0) ((rd_T94 x233001 x6).f1) ((rd_T94 x233001 x6).f2)).bind fun bt253 => (if x241001.length < 3518437208883 then (spec_l4Copy.l1 k (wrap64 (x6 + 1)) x233000 x233001 x233002 x241000 (x241001 ++ [(⟨bt253.1,bt253.2.1,bt253.2.2⟩ : S94)]) x241002) else (none))) else (none)) else (some (x241000,x241001,x241002))
end
def spec_l4Copy.f (k : Nat) (l0_0 : List (S107)) (l0_1 : List (S94)) (l0_2 : List (S35)) : Option ((List (S107)) × (List (S94)) × (List (S35))) := (some (([] : List (S35)) : List (S35))).bind fun y234 => (if y234.length + l0_2.length < 8796093022208 then (spec_l4Copy.l0 k 0 l0_0 l0_1 l0_2 ([] : List (S107)) (y234 ++ l0_2)) else (none))
def spec_l4Copy.T11 : Bool × List (List Nat × List Nat) := (true,[([],[]),([0],[0]),([],[]),([2],[2]),([],[]),([3,4],[3,4]),([5],[5]),([6],[6]),([7],[7]),([1,8,7],[1,8]),([0,1,2,3,4,5,6,7,8,9],[]),([10,9,9,0,1,2,3,4,5,6,7,8,9],[9,10])])
def spec_l4Copy.B11 : List Nat := [0,1,0,4,0,28,60,124,252,511,1023,2047]
theorem spec_l4Copy.tab11 : rtab .any (opsOf Try.f150 11) = spec_l4Copy.T11 := by kernel_rfl
theorem spec_l4Copy.bits11 : waitsOk spec_l4Copy.T11.2 spec_l4Copy.B11 = true := by kernel_rfl
def spec_l4Bit.f (a0 : Bool) : Option (Int) := if a0 = true then (some 1) else (some 0)
set_option maxHeartbeats 8000000 in
set_option maxRecDepth 100000 in
theorem spec_l4Bit.calls (a0 : Bool) (r : Int) (w : World) (h : spec_l4Bit.f a0 = some r) :
  Calls Try.prog 172 #[.bool a0] w fun e w' => e = .returned (.int .i64 r) ∧ Drawn0 w w' := by
 have H : (if a0 = true then (some 1) else (some 0)) = some r := h
 clear h
 by_cases c2 : a0 = true
 ·subst c2
  have H1 : (some 1) = some r := by rw [if_pos rfl] at H;exact H
  clear H
  have H := H1
  clear H1
  obtain rfl := Option.some.inj H
  go_enter Try.func172,Try.ntmps172
  go_wp2
  go_ret
  exact ⟨by first | rfl | (simp;done) | (simp [*];done),by repeat (first | exact Drawn0.refl _ | apply Drawn0.step)⟩
 ·replace c2 := Bool.eq_false_iff.mpr c2
  subst c2
  have H1 : (some 0) = some r := by rw [if_neg (show ¬ (false = true) by decide)] at H;exact H
  clear H
  have H := H1
  clear H1
  obtain rfl := Option.some.inj H
  go_enter Try.func172,Try.ntmps172
  go_wp2
  go_ret
  exact ⟨by first | rfl | (simp;done) | (simp [*];done),by repeat (first | exact Drawn0.refl _ | apply Drawn0.step)⟩
end Go.Proofs.Ytobachfngmpeiaa.PFnExactStuck
