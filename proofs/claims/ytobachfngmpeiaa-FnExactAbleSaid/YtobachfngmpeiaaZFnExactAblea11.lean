/- Part of the proof of FnExactAble. -/
import Derived.Test.YtobachfngmpeiaaZFnExactAblea10
import Derived.Test.YtobachfngmpeiaaZFnExactAbles
set_option maxRecDepth 100000
namespace Go.Proofs.Ytobachfngmpeiaa.PFnExactAble
open Go.RowKit Go.Proofs.YtobachfngmpeiaaW.PrintWords Go.Proofs.YtobachfngmpeiaaW.PrintLast Go.Proofs.YtobachfngmpeiaaW.PrintMore
attribute [local go_sem] max2_int min2_int max_two min_two max_three min_three max_four min_four   -- for this text's walks alone
set_option linter.unusedVariables false
set_option linter.unusedSimpArgs false
mutual
def spec_SourceOk.j0 : Nat → Bool → List Int → List (List (S192)) → List (S107) → List (S94) → List (S35) → Option (Bool)
  | 0,_,_,_,_,_,_ => none
  | k + 1,x35,x278000,x278001,x279000,x279001,x279002 => if x35 = true then (some false) else (spec_SourceOk.l0 k 0 x278000 x278001 x279000 x279001 x279002)
def spec_SourceOk.l0 : Nat → Int → List Int → List (List (S192)) → List (S107) → List (S94) → List (S35) → Option (Bool)
  | 0,_,_,_,_,_,_ => none
  | k + 1,x5,x278000,x278001,x279000,x279001,x279002 => if x5 < (x279000.length : Int) then (if 0 ≤ x5 then (if (((rd_T107 x279000 x5).f1).length : Int) = 4 then ((spec_l1In.f ((rd_T107 x279000 x5).f2) 0 2).bind fun t282 => (if t282 = true then (if x5 < (x278001.length : Int) then ((spec_l1In.f ((rd_T107 x279000 x5).f0) 0 (wrap64 (((rd_L4 x278001 x5).length : Int) - 1))).bind fun t284 => (spec_SourceOk.j2 k x5 (!t284) x278000 x278001 x279000 x279001 x279002)) else (none)) else (spec_SourceOk.j2 k x5 true x278000 x278001 x279000 x279001 x279002))) else (spec_SourceOk.j2 k x5 true x278000 x278001 x279000 x279001 x279002)) else (none)) else (spec_SourceOk.l1 k 0 x278000 x278001 x279000 x279001 x279002)
def spec_SourceOk.j2 : Nat → Int → Bool → List Int → List (List (S192)) → List (S107) → List (S94) → List (S35) → Option (Bool)
  | 0,_,_,_,_,_,_,_ => none
  | k + 1,x5,x70,x278000,x278001,x279000,x279001,x279002 => if x70 = true then (some false) else (spec_SourceOk.l0 k (wrap64 (x5 + 1)) x278000 x278001 x279000 x279001 x279002)
def spec_SourceOk.l1 : Nat → Int → List Int → List (List (S192)) → List (S107) → List (S94) → List (S35) → Option (Bool)
  | 0,_,_,_,_,_,_ => none
  | k + 1,x7,x278000,x278001,x279000,x279001,x279002 => if x7 < (x279001.length : Int) then (if 0 ≤ x7 then ((spec_ChanOk.f ((rd_T94 x279001 x7).f0) ((rd_T94 x279001 x7).f1) ((rd_T94 x279001 x7).f2)).bind fun t286 => (if t286 = true then (if x7 < (x278000.length : Int) then (if ((rd_T94 x279001 x7).f0) = (rd x278000 x7) then (spec_SourceOk.l1 k (wrap64 (x7 + 1)) x278000 x278001 x279000 x279001 x279002) else (some false)) else (none)) else (some false))) else (none)) else (spec_SourceOk.l2 k 0 x279000 x279001 x279002)
def spec_SourceOk.l2 : Nat → Int → List (S107) → List (S94) → List (S35) → Option (Bool)
  | 0,_,_,_,_ => none
  | k + 1,x8,x279000,x279001,x279002 => if x8 < (x279002.length : Int) then (if 0 ≤ x8 then ((spec_l1In.f ((rd_T35 x279002 x8).f0) 0 (wrap64 ((x279000.length : Int) - 1))).bind fun t290 => (if t290 = true then (spec_SourceOk.l2 k (wrap64 (x8 + 1)) x279000 x279001 x279002) else (some false))) else (none)) else (some true)
end
def spec_SourceOk.f (k : Nat) (l0_0 : List Int) (l0_1 : List (List (S192))) (l1_0 : List (S107)) (l1_1 : List (S94)) (l1_2 : List (S35)) : Option (Bool) := (spec_ProgOk.f k l0_0 l0_1).bind fun t279 => (if t279 = true then (if (l1_0.length : Int) = (l0_1.length : Int) then (if (l1_1.length : Int) = (l0_0.length : Int) then (spec_SourceOk.j0 k (decide ((l1_2.length : Int) > 4000)) l0_0 l0_1 l1_0 l1_1 l1_2) else (spec_SourceOk.j0 k true l0_0 l0_1 l1_0 l1_1 l1_2)) else (spec_SourceOk.j0 k true l0_0 l0_1 l1_0 l1_1 l1_2)) else (spec_SourceOk.j0 k true l0_0 l0_1 l1_0 l1_1 l1_2))
def spec_SourceOk.T7 : Bool × List (List Nat × List Nat) := (true,[([],[]),([0],[0]),([1],[1]),([2],[2]),([3],[3]),([4],[4]),([5,4],[4,5]),([6,4,4],[4,6]),([7,4],[4,7]),([4,8],[4,8]),([9,7],[9]),([10],[10]),([11,10],[10,11]),([10],[10]),([13,10],[10,13]),([10],[10]),([14,15,10],[10,14,15]),([16,10],[10,16]),([17,10],[10,17]),([18,10],[10,18]),([12,19,10,10],[10,12,19]),([20,10],[10,20]),([10,21],[10,21])])
def spec_SourceOk.B7 : List Nat := [0,1,3,7,15,31,63,127,255,511,1023,2047,4095,2047,10239,2047,59391,124927,255999,518143,1048575,2097151,4194303]
theorem spec_SourceOk.tab7 : rtab .any (opsOf Try.f94 7) = spec_SourceOk.T7 := by kernel_rfl
theorem spec_SourceOk.bits7 : waitsOk spec_SourceOk.T7.2 spec_SourceOk.B7 = true := by kernel_rfl
def spec_SourceOk.T12 : Bool × List (List Nat × List Nat) := (true,[([],[]),([0],[0]),([],[]),([1,2],[1,2]),([3],[3]),([4],[4]),([5],[5]),([6,5],[6]),([7],[7]),([8,7],[7,8]),([7],[7]),([9,10,7],[7,9,10]),([11,7],[7,11]),([12,7],[7,12]),([7],[7]),([14,7],[7,14]),([7],[7]),([15,16,7],[7,15,16]),([17,7],[7,17]),([13,18,7],[7,13,18]),([7,19],[7,19])])
def spec_SourceOk.B12 : List Nat := [0,1,0,7,15,31,63,127,255,511,255,2047,4095,8191,255,16639,255,114943,246015,524287,1048575]
theorem spec_SourceOk.tab12 : rtab .any (opsOf Try.f94 12) = spec_SourceOk.T12 := by kernel_rfl
theorem spec_SourceOk.bits12 : waitsOk spec_SourceOk.T12.2 spec_SourceOk.B12 = true := by kernel_rfl
def spec_SourceOk.T17 : Bool × List (List Nat × List Nat) := (true,[([],[]),([0],[0]),([],[]),([1,2],[1,2]),([3],[3]),([4],[4]),([],[]),([6],[6]),([7],[7]),([8],[8]),([5,9],[5,9]),([10],[10])])
def spec_SourceOk.B17 : List Nat := [0,1,0,7,15,31,0,64,192,448,1023,2047]
theorem spec_SourceOk.tab17 : rtab .any (opsOf Try.f94 17) = spec_SourceOk.T17 := by kernel_rfl
theorem spec_SourceOk.bits17 : waitsOk spec_SourceOk.T17.2 spec_SourceOk.B17 = true := by kernel_rfl
set_option maxHeartbeats 8000000 in
theorem spec_SourceOk.calls (k : Nat) (A0_0 : Option Addr) (c0_0 : Nat) (l0_0 : List Int) (A0_1 : Option Addr) (c0_1 : Nat) (l0_1 : List (List (S192))) (A1_0 : Option Addr) (c1_0 : Nat) (l1_0 : List (S107)) (A1_1 : Option Addr) (c1_1 : Nat) (l1_1 : List (S94)) (A1_2 : Option Addr) (c1_2 : Nat) (l1_2 : List (S35)) (r : Bool) (w : World) (hr0_0 : Kd.C (Kd.int .i64) w A0_0 l0_0.length l0_0) (hc0_0 : l0_0.length ≤ c0_0) (hr0_1 : Kd.C (Kd.slice 192 k192) w A0_1 l0_1.length l0_1) (hc0_1 : l0_1.length ≤ c0_1) (hr1_0 : Kd.C k107 w A1_0 l1_0.length l1_0) (hc1_0 : l1_0.length ≤ c1_0) (hr1_1 : Kd.C k94 w A1_1 l1_1.length l1_1) (hc1_1 : l1_1.length ≤ c1_1) (hr1_2 : Kd.C k35 w A1_2 l1_2.length l1_2) (hc1_2 : l1_2.length ≤ c1_2) (h : spec_SourceOk.f k l0_0 l0_1 l1_0 l1_1 l1_2 = some r) :
  Calls Try.prog 94 #[.agg #[.slice A0_0 l0_0.length c0_0,.slice A0_1 l0_1.length c0_1],.agg #[.slice A1_0 l1_0.length c1_0,.slice A1_1 l1_1.length c1_1,.slice A1_2 l1_2.length c1_2]] w fun e w' => e = .returned (.bool r) ∧ Below w.heap.size w w' := by
 have hu44 := Try.underlying44
 have hu28 := Try.underlying28
 have hu107 := Try.underlying107
 have hu94 := Try.underlying94
 have HR0_0 := aM_ hr0_0
 have HC0_0 := aM_ hc0_0
 clear hr0_0 hc0_0
 have HR0_1 := aM_ hr0_1
 have HC0_1 := aM_ hc0_1
 clear hr0_1 hc0_1
 have HR1_0 := aM_ hr1_0
 have HC1_0 := aM_ hc1_0
 clear hr1_0 hc1_0
 have HR1_1 := aM_ hr1_1
 have HC1_1 := aM_ hc1_1
 clear hr1_1 hc1_1
 have HR1_2 := aM_ hr1_2
 have HC1_2 := aM_ hc1_2
 clear hr1_2 hc1_2
 have HB := aM_ (Below.refl w.heap.size w)
 have H : ((spec_ProgOk.f k l0_0 l0_1).bind fun t279 => (if t279 = true then (if (l1_0.length : Int) = (l0_1.length : Int) then (if (l1_1.length : Int) = (l0_0.length : Int) then (spec_SourceOk.j0 k (decide ((l1_2.length : Int) > 4000)) l0_0 l0_1 l1_0 l1_1 l1_2) else (spec_SourceOk.j0 k true l0_0 l0_1 l1_0 l1_1 l1_2)) else (spec_SourceOk.j0 k true l0_0 l0_1 l1_0 l1_1 l1_2)) else (spec_SourceOk.j0 k true l0_0 l0_1 l1_0 l1_1 l1_2))) = some r := h
 clear h
 have HC3 := aM_ H
 clear H
 go_enter Try.func94,Try.ntmps94
 go_upto_region 1 with (first | ((with_reducible refine gate_dst (N := 2) rfl ?_);(try (refine gate_guard (by rfl) ?_;dsimp only));refine bX_ 2 (cs := #[.slice A0_0 l0_0.length c0_0,.slice A0_1 l0_1.length c0_1]) (t := 44) ?_;intro gb277 hg w4 hbox hb;have BK277 := aM_ (hbox);have GE277 := aM_ (sZ_ hg HB.out);replace HB := aM_ (sT_ HB.out hb);clear hb hbox hg) | ((with_reducible refine gate_dst (N := 3) rfl ?_);(try (refine gate_guard (by rfl) ?_;dsimp only));refine bX_ 3 (cs := #[.slice A1_0 l1_0.length c1_0,.slice A1_1 l1_1.length c1_1,.slice A1_2 l1_2.length c1_2]) (t := 28) ?_;intro gb278 hg w5 hbox hb;have BK278 := aM_ (hbox);have GE278 := aM_ (sZ_ hg HB.out);have NB277_278 := aM_ (nL_ hg BK277.out);have NB278_277 := aM_ (nG_ hg BK277.out);replace BK277 := aM_ (nB_ BK277.out hb);replace HB := aM_ (sT_ HB.out hb);clear hb hbox hg))
 (try simp only [Act.put,List.setIfInBounds_toArray,List.set_cons_zero,List.set_cons_succ])
 go_cut [35] (fun v35 wc => ∃ (kq : Nat) (x35_2 : Bool),v35 = .bool x35_2 ∧ Aside0 (spec_SourceOk.j0 kq x35_2 l0_0 l0_1 l1_0 l1_1 l1_2 = some r) ∧ Aside0 (kq ≤ k) ∧ Aside0 (wc.heap[gb277]? = some (.cells #[(.slice A0_0 l0_0.length c0_0),(.slice A0_1 l0_1.length c0_1)] 44 (0,0))) ∧ Aside0 (wc.heap[gb278]? = some (.cells #[(.slice A1_0 l1_0.length c1_0),(.slice A1_1 l1_1.length c1_1),(.slice A1_2 l1_2.length c1_2)] 28 (0,0))) ∧ Aside0 (Below w.heap.size w wc))
 case first =>
  have H := HC3.out
  clear HC3
  replace H := Option.bind_eq_some_iff.mp H
  obtain ⟨t279,A60,H⟩ := H
  replace H : (if t279 = true then (if (l1_0.length : Int) = (l0_1.length : Int) then (if (l1_1.length : Int) = (l0_0.length : Int) then (spec_SourceOk.j0 k (decide ((l1_2.length : Int) > 4000)) l0_0 l0_1 l1_0 l1_1 l1_2) else (spec_SourceOk.j0 k true l0_0 l0_1 l1_0 l1_1 l1_2)) else (spec_SourceOk.j0 k true l0_0 l0_1 l1_0 l1_1 l1_2)) else (spec_SourceOk.j0 k true l0_0 l0_1 l1_0 l1_1 l1_2)) = some r := H
  have A6 := aM_ A60
  clear A60
  by_cases c7 : t279 = true
  ·subst c7
   have H1 : (if (l1_0.length : Int) = (l0_1.length : Int) then (if (l1_1.length : Int) = (l0_0.length : Int) then (spec_SourceOk.j0 k (decide ((l1_2.length : Int) > 4000)) l0_0 l0_1 l1_0 l1_1 l1_2) else (spec_SourceOk.j0 k true l0_0 l0_1 l1_0 l1_1 l1_2)) else (spec_SourceOk.j0 k true l0_0 l0_1 l1_0 l1_1 l1_2)) = some r := by rw [if_pos rfl] at H;exact H
   clear H
   have H := H1
   clear H1
   by_cases c8 : (l1_0.length : Int) = (l0_1.length : Int)
   ·rw [if_pos c8] at H
    have c8b0 : ((l1_0.length : Int) == (l0_1.length : Int)) = true := beq_iff_eq.mpr c8
    have c8b1 : ((l1_0.length : Int) != (l0_1.length : Int)) = false := bne_eq_false_iff_eq.mpr c8
    have c8b2 : (l1_0.length == l0_1.length) = true := by first | simpa using c8 | (simp at c8 ⊢;omega)
    clear c8
    (first | rw [c8b0] | (simp only [i64_w,i32_w];rw [c8b0]) | skip)
    by_cases c9 : (l1_1.length : Int) = (l0_0.length : Int)
    ·rw [if_pos c9] at H
     have c9b0 : ((l1_1.length : Int) == (l0_0.length : Int)) = true := beq_iff_eq.mpr c9
     have c9b1 : ((l1_1.length : Int) != (l0_0.length : Int)) = false := bne_eq_false_iff_eq.mpr c9
     have c9b2 : (l1_1.length == l0_0.length) = true := by first | simpa using c9 | (simp at c9 ⊢;omega)
     clear c9
     have H' := aM_ H
     clear H
     have hnb10 := NB277_278.out
     have hnc10 := NB278_277.out
     have z_11 := bR2_ BK277.out
     go_wp2_with (first | (refine gL_ (some 10) Try.func60 #[.agg #[.slice A0_0 l0_0.length c0_0,.slice A0_1 l0_1.length c0_1]] ?_;(with_reducible refine (spec_ProgOk.calls k _ _ l0_0 _ _ l0_1 true _ ?side1 HC0_0.out ?side3 HC0_1.out A6.out).mono ?_);(case side1 => exact cS_ (Kd.C_below HR0_0.out HB.out));(case side3 => exact cS_ (Kd.C_below HR0_1.out HB.out));rintro e w12 ⟨rfl,hb⟩;refine ⟨_,rfl,?_⟩;replace BK277 := aM_ (nB_ BK277.out hb);replace BK278 := aM_ (nB_ BK278.out hb);replace HB := aM_ (sT_ HB.out hb);have z_13 := bR3_ BK278.out;have z_14 := bR2_ BK277.out))
     go_meet
     case rel => exact ⟨_,(decide ((l1_2.length : Int) > 4000)),(by first | rfl | (simp;done) | (simp [*];done)),H',⟨by first | omega | exact Nat.le_refl _⟩,⟨rW_ BK277.out⟩,⟨rW_ BK278.out⟩,⟨gW_ HB.out⟩⟩
    ·rw [if_neg c9] at H
     have c9b0 : ((l1_1.length : Int) == (l0_0.length : Int)) = false := beq_eq_false_iff_ne.mpr c9
     have c9b1 : ((l1_1.length : Int) != (l0_0.length : Int)) = true := bne_iff_ne.mpr c9
     have c9b2 : (l1_1.length == l0_0.length) = false := by first | simpa using c9 | (simp at c9 ⊢;omega)
     have H' := aM_ H
     clear H
     have hnb15 := NB277_278.out
     have hnc15 := NB278_277.out
     have z_16 := bR2_ BK277.out
     go_wp2_with (first | (refine gL_ (some 10) Try.func60 #[.agg #[.slice A0_0 l0_0.length c0_0,.slice A0_1 l0_1.length c0_1]] ?_;(with_reducible refine (spec_ProgOk.calls k _ _ l0_0 _ _ l0_1 true _ ?side1 HC0_0.out ?side3 HC0_1.out A6.out).mono ?_);(case side1 => exact cS_ (Kd.C_below HR0_0.out HB.out));(case side3 => exact cS_ (Kd.C_below HR0_1.out HB.out));rintro e w17 ⟨rfl,hb⟩;refine ⟨_,rfl,?_⟩;replace BK277 := aM_ (nB_ BK277.out hb);replace BK278 := aM_ (nB_ BK278.out hb);replace HB := aM_ (sT_ HB.out hb);have z_18 := bR3_ BK278.out;have z_19 := bR2_ BK277.out))
     go_meet
     case rel => exact ⟨_,(true),(by first | rfl | (simp;done) | (simp [*];done)),H',⟨by first | omega | exact Nat.le_refl _⟩,⟨rW_ BK277.out⟩,⟨rW_ BK278.out⟩,⟨gW_ HB.out⟩⟩
   ·rw [if_neg c8] at H
    have c8b0 : ((l1_0.length : Int) == (l0_1.length : Int)) = false := beq_eq_false_iff_ne.mpr c8
    have c8b1 : ((l1_0.length : Int) != (l0_1.length : Int)) = true := bne_iff_ne.mpr c8
    have c8b2 : (l1_0.length == l0_1.length) = false := by first | simpa using c8 | (simp at c8 ⊢;omega)
    (first | rw [c8b0] | (simp only [i64_w,i32_w];rw [c8b0]) | skip)
    have H' := aM_ H
    clear H
    have hnb20 := NB277_278.out
    have hnc20 := NB278_277.out
    have z_21 := bR2_ BK277.out
    go_wp2_with (first | (refine gL_ (some 10) Try.func60 #[.agg #[.slice A0_0 l0_0.length c0_0,.slice A0_1 l0_1.length c0_1]] ?_;(with_reducible refine (spec_ProgOk.calls k _ _ l0_0 _ _ l0_1 true _ ?side1 HC0_0.out ?side3 HC0_1.out A6.out).mono ?_);(case side1 => exact cS_ (Kd.C_below HR0_0.out HB.out));(case side3 => exact cS_ (Kd.C_below HR0_1.out HB.out));rintro e w22 ⟨rfl,hb⟩;refine ⟨_,rfl,?_⟩;replace BK277 := aM_ (nB_ BK277.out hb);replace BK278 := aM_ (nB_ BK278.out hb);replace HB := aM_ (sT_ HB.out hb);have z_23 := bR3_ BK278.out;have z_24 := bR2_ BK277.out))
    go_meet
    case rel => exact ⟨_,(true),(by first | rfl | (simp;done) | (simp [*];done)),H',⟨by first | omega | exact Nat.le_refl _⟩,⟨rW_ BK277.out⟩,⟨rW_ BK278.out⟩,⟨gW_ HB.out⟩⟩
  ·replace c7 := Bool.eq_false_iff.mpr c7
   subst c7
   have H1 : (spec_SourceOk.j0 k true l0_0 l0_1 l1_0 l1_1 l1_2) = some r := by rw [if_neg (show ¬ (false = true) by decide)] at H;exact H
   clear H
   have H := H1
   clear H1
   have H' := aM_ H
   clear H
   have hnb25 := NB277_278.out
   have hnc25 := NB278_277.out
   have z_26 := bR2_ BK277.out
   go_wp2_with (first | (refine gL_ (some 10) Try.func60 #[.agg #[.slice A0_0 l0_0.length c0_0,.slice A0_1 l0_1.length c0_1]] ?_;(with_reducible refine (spec_ProgOk.calls k _ _ l0_0 _ _ l0_1 false _ ?side1 HC0_0.out ?side3 HC0_1.out A6.out).mono ?_);(case side1 => exact cS_ (Kd.C_below HR0_0.out HB.out));(case side3 => exact cS_ (Kd.C_below HR0_1.out HB.out));rintro e w27 ⟨rfl,hb⟩;refine ⟨_,rfl,?_⟩;replace BK277 := aM_ (nB_ BK277.out hb);replace BK278 := aM_ (nB_ BK278.out hb);replace HB := aM_ (sT_ HB.out hb)))
   go_meet
   case rel => exact ⟨_,(true),(by first | rfl | (simp;done) | (simp [*];done)),H',⟨by first | omega | exact Nat.le_refl _⟩,⟨rW_ BK277.out⟩,⟨rW_ BK278.out⟩,⟨gW_ HB.out⟩⟩
 case rest =>
  clear HC3
  (try clear c1);(try clear c2);(try clear p2);(try clear c6);(try clear c7);(try clear c8);(try clear c8b0);(try clear c8b1);(try clear c8b2);(try clear c9);(try clear c9b0);(try clear c9b1);(try clear c9b2);(try clear c10);(try clear c15);(try clear c20);(try clear c25);(try clear z_11);(try clear z_13);(try clear z_14);(try clear z_16);(try clear z_18);(try clear z_19);(try clear z_21);(try clear z_23);(try clear z_24);(try clear z_26)
  obtain ⟨kq,x35_2,rfl,HA,HJ2,BK277,BK278,HB⟩ := hcut
  cases kq with
  | zero => exact absurd HA.out (by simp [spec_SourceOk.j0])
  | succ kj2 =>
   have H := HA.out
   clear HA
   simp only [spec_SourceOk.j0] at H
   by_cases c28 : x35_2 = true
   ·subst c28
    have H1 : (some false) = some r := by rw [if_pos rfl] at H;exact H
    clear H
    have H := H1
    clear H1
    obtain rfl := sJ_ H
    go_wp2
    go_ret
    exact fI_ HB.out
   ·replace c28 := Bool.eq_false_iff.mpr c28
    subst c28
    have H1 : (spec_SourceOk.l0 kj2 0 l0_0 l0_1 l1_0 l1_1 l1_2) = some r := by rw [if_neg (show ¬ (false = true) by decide)] at H;exact H
    clear H
    have H := H1
    clear H1
    have H' := aM_ H
    clear H
    go_wp2
    go_loopg [5] kj2 (fun kq v5 w' => ∃ (x5_2 : Int),v5 = .int .i64 x5_2 ∧ Aside0 (spec_SourceOk.l0 kq x5_2 l0_0 l0_1 l1_0 l1_1 l1_2 = some r) ∧ Aside0 (kq ≤ kj2) ∧ Aside0 (w'.heap[gb277]? = some (.cells #[(.slice A0_0 l0_0.length c0_0),(.slice A0_1 l0_1.length c0_1)] 44 (0,0))) ∧ Aside0 (w'.heap[gb278]? = some (.cells #[(.slice A1_0 l1_0.length c1_0),(.slice A1_1 l1_1.length c1_1),(.slice A1_2 l1_2.length c1_2)] 28 (0,0))) ∧ Aside0 (Below w.heap.size w w'))
    case atStart => exact ⟨(0),(by first | rfl | (simp;done) | (simp [*];done)),H',⟨Nat.le_refl _⟩,⟨rW_ BK277.out⟩,⟨rW_ BK278.out⟩,⟨gW_ HB.out⟩⟩
    case round =>
     clear H'
     (try clear c1);(try clear c2);(try clear p2);(try clear c6);(try clear c7);(try clear c8);(try clear c8b0);(try clear c8b1);(try clear c8b2);(try clear c9);(try clear c9b0);(try clear c9b1);(try clear c9b2);(try clear c10);(try clear c15);(try clear c20);(try clear c25);(try clear c28);(try clear z_11);(try clear z_13);(try clear z_14);(try clear z_16);(try clear z_18);(try clear z_19);(try clear z_21);(try clear z_23);(try clear z_24);(try clear z_26);(try clear p2)
     obtain ⟨x5_2,rfl,HA,HK2,BK277,BK278,HB⟩ := hrel
     cases gk with
     | zero => exact absurd HA.out (by simp [spec_SourceOk.l0])
     | succ k2 =>
      have H := HA.out
      clear HA
      simp only [spec_SourceOk.l0] at H
      by_cases c29 : x5_2 < (l1_0.length : Int)
      ·rw [if_pos c29] at H
       have c29b0 : decide (x5_2 < (l1_0.length : Int)) = true := decide_eq_true c29
       clear c29
       by_cases c30 : 0 ≤ x5_2
       ·rw [if_pos c30] at H
        have c30b0 : decide (0 ≤ x5_2) = true := decide_eq_true c30
        clear c30
        have HC31 := aM_ H
        clear H
        have hnb32 := NB278_277.out
        have hnc32 := NB277_278.out
        have z_33 := bR3_ BK278.out
        have p280 : 0 ≤ (x5_2 : Int) := pD_
        have q280 : x5_2 < (l1_0.length : Int) := pD_
        obtain ⟨ad280,A280_1,c280_1,e280,hx280_0,hx280_1,hx280_2,hl280_1,hi280_1⟩ := at_T107 HR1_0.out x5_2 p280 q280
        cases e280
        replace hx280_0 := cB_ HB.out hx280_0
        replace hx280_1 := cB_ HB.out hx280_1
        replace hx280_2 := cB_ HB.out hx280_2
        have HR280_1 := aM_ hi280_1
        have HC280_1 := aM_ hl280_1
        clear hi280_1 hl280_1
        replace p280 := eq_true p280
        replace q280 := eq_true q280
        go_upto_region 7 with (first | ((with_reducible refine gate_dst (N := 6) rfl ?_);(try (refine gate_guard (by rfl) ?_;dsimp only));refine bX_ 6 (cs := #[.int .i64 0,.slice none 0 0,.int .i64 0]) (t := 107) ?_;intro gb281 hg w34 hbox hb;have BK281 := aM_ (hbox);have GE281 := aM_ (sZ_ hg HB.out);have NB277_281 := aM_ (nL_ hg BK277.out);have NB281_277 := aM_ (nG_ hg BK277.out);have NB278_281 := aM_ (nL_ hg BK278.out);have NB281_278 := aM_ (nG_ hg BK278.out);replace BK277 := aM_ (nB_ BK277.out hb);replace BK278 := aM_ (nB_ BK278.out hb);replace HB := aM_ (sT_ HB.out hb);clear hb hbox hg;have hnb35 := nn_ NB281_277 NB277_281;have hnb36 := nn_ NB281_278 NB278_281;have z_37 := bR3_ BK281.out))
        (try simp only [Act.put,List.setIfInBounds_toArray,List.set_cons_zero,List.set_cons_succ])
        go_cut [70] (fun v70 wc => ∃ (kq : Nat) (x70_30 : Bool),v70 = .bool x70_30 ∧ Aside0 (spec_SourceOk.j2 kq x5_2 x70_30 l0_0 l0_1 l1_0 l1_1 l1_2 = some r) ∧ Aside0 (kq ≤ k2) ∧ Aside0 (wc.heap[gb277]? = some (.cells #[(.slice A0_0 l0_0.length c0_0),(.slice A0_1 l0_1.length c0_1)] 44 (0,0))) ∧ Aside0 (wc.heap[gb278]? = some (.cells #[(.slice (some ad280) l1_0.length c1_0),(.slice A1_1 l1_1.length c1_1),(.slice A1_2 l1_2.length c1_2)] 28 (0,0))) ∧ Aside0 (wc.heap[gb281]? = some (.cells #[.int .i64 ((rd_T107 l1_0 x5_2).f0),(.slice A280_1 ((rd_T107 l1_0 x5_2).f1).length c280_1),.int .i64 ((rd_T107 l1_0 x5_2).f2)] 107 (0,0))) ∧ Aside0 (Below w.heap.size w wc))
        case first =>
         have H := HC31.out
         clear HC31
         by_cases c38 : (((rd_T107 l1_0 x5_2).f1).length : Int) = 4
         ·rw [if_pos c38] at H
          have c38b0 : ((((rd_T107 l1_0 x5_2).f1).length : Int) == 4) = true := beq_iff_eq.mpr c38
          have c38b1 : ((((rd_T107 l1_0 x5_2).f1).length : Int) != 4) = false := bne_eq_false_iff_eq.mpr c38
          clear c38
          (first | rw [c38b0] | (simp only [i64_w,i32_w];rw [c38b0]) | skip)
          replace H := Option.bind_eq_some_iff.mp H
          obtain ⟨t282,A390,H⟩ := H
          replace H : (if t282 = true then (if x5_2 < (l0_1.length : Int) then ((spec_l1In.f ((rd_T107 l1_0 x5_2).f0) 0 (wrap64 (((rd_L4 l0_1 x5_2).length : Int) - 1))).bind fun t284 => (spec_SourceOk.j2 k2 x5_2 (!t284) l0_0 l0_1 l1_0 l1_1 l1_2)) else (none)) else (spec_SourceOk.j2 k2 x5_2 true l0_0 l0_1 l1_0 l1_1 l1_2)) = some r := H
          have A39 := aM_ A390
          clear A390
          by_cases c40 : t282 = true
          ·subst c40
           have H1 : (if x5_2 < (l0_1.length : Int) then ((spec_l1In.f ((rd_T107 l1_0 x5_2).f0) 0 (wrap64 (((rd_L4 l0_1 x5_2).length : Int) - 1))).bind fun t284 => (spec_SourceOk.j2 k2 x5_2 (!t284) l0_0 l0_1 l1_0 l1_1 l1_2)) else (none)) = some r := by rw [if_pos rfl] at H;exact H
           clear H
           have H := H1
           clear H1
           by_cases c41 : x5_2 < (l0_1.length : Int)
           ·rw [if_pos c41] at H
            have c41b0 : decide (x5_2 < (l0_1.length : Int)) = true := decide_eq_true c41
            clear c41
            replace H := Option.bind_eq_some_iff.mp H
            obtain ⟨t284,A420,H⟩ := H
            replace H : (spec_SourceOk.j2 k2 x5_2 (!t284) l0_0 l0_1 l1_0 l1_1 l1_2) = some r := H
            have A42 := aM_ A420
            clear A420
            have H' := aM_ H
            clear H
            try go_wp2
            have n0 : Aside0 ((((w34.setCell ⟨gb281,0,none⟩ (.int .i64 ((rd_T107 l1_0 x5_2).f0))).setCell ⟨gb281,1,none⟩ (.slice A280_1 ((rd_T107 l1_0 x5_2).f1).length c280_1)).setCell ⟨gb281,2,none⟩ (.int .i64 ((rd_T107 l1_0 x5_2).f2))).heap[gb277]? = some (.cells #[.slice A0_0 l0_0.length c0_0,.slice A0_1 l0_1.length c0_1] 44 (0,0))) := ⟨rWf_ BK277.out⟩
            have n1 : Aside0 ((((w34.setCell ⟨gb281,0,none⟩ (.int .i64 ((rd_T107 l1_0 x5_2).f0))).setCell ⟨gb281,1,none⟩ (.slice A280_1 ((rd_T107 l1_0 x5_2).f1).length c280_1)).setCell ⟨gb281,2,none⟩ (.int .i64 ((rd_T107 l1_0 x5_2).f2))).heap[gb278]? = some (.cells #[.slice (some ad280) l1_0.length c1_0,.slice A1_1 l1_1.length c1_1,.slice A1_2 l1_2.length c1_2] 28 (0,0))) := ⟨rWf_ BK278.out⟩
            have n2 : Aside0 ((((w34.setCell ⟨gb281,0,none⟩ (.int .i64 ((rd_T107 l1_0 x5_2).f0))).setCell ⟨gb281,1,none⟩ (.slice A280_1 ((rd_T107 l1_0 x5_2).f1).length c280_1)).setCell ⟨gb281,2,none⟩ (.int .i64 ((rd_T107 l1_0 x5_2).f2))).heap[gb281]? = some (.cells #[.int .i64 ((rd_T107 l1_0 x5_2).f0),.slice A280_1 ((rd_T107 l1_0 x5_2).f1).length c280_1,.int .i64 ((rd_T107 l1_0 x5_2).f2)] 107 (0,0))) := ⟨by (with_reducible repeat (first | refine bN_ ?_ _ | refine bD_ ?_ | refine bA_ ?_ _));refine blk_put (cs := #[.int .i64 ((rd_T107 l1_0 x5_2).f0),.slice A280_1 ((rd_T107 l1_0 x5_2).f1).length c280_1,.int .i64 0]) ?_ 2 _ rfl;refine blk_put (cs := #[.int .i64 ((rd_T107 l1_0 x5_2).f0),.slice none 0 0,.int .i64 0]) ?_ 1 _ rfl;refine blk_put (cs := #[.int .i64 0,.slice none 0 0,.int .i64 0]) ?_ 0 _ rfl;(with_reducible repeat (first | refine bN_ ?_ _ | refine bD_ ?_ | refine bA_ ?_ _));exact BK281.out⟩
            have n3 : Aside0 (Below w.heap.size w (((w34.setCell ⟨gb281,0,none⟩ (.int .i64 ((rd_T107 l1_0 x5_2).f0))).setCell ⟨gb281,1,none⟩ (.slice A280_1 ((rd_T107 l1_0 x5_2).f1).length c280_1)).setCell ⟨gb281,2,none⟩ (.int .i64 ((rd_T107 l1_0 x5_2).f2)))) := ⟨gW_ HB.out⟩
            (try clear BK277)
            (try clear BK278)
            (try clear BK281)
            (try clear HB)
            generalize (((w34.setCell ⟨gb281,0,none⟩ (.int .i64 ((rd_T107 l1_0 x5_2).f0))).setCell ⟨gb281,1,none⟩ (.slice A280_1 ((rd_T107 l1_0 x5_2).f1).length c280_1)).setCell ⟨gb281,2,none⟩ (.int .i64 ((rd_T107 l1_0 x5_2).f2))) = w43 at n0 n1 n2 n3 ⊢
            have BK277 := n0
            have BK278 := n1
            have BK281 := n2
            have HB := n3
            clear n0 n1 n2 n3
            replace BK277 := aM_ (blk_drew BK277.out)
            replace BK278 := aM_ (blk_drew BK278.out)
            replace BK281 := aM_ (blk_drew BK281.out)
            replace HB := aM_ (below_drew1 HB.out)
            have p283 : 0 ≤ (x5_2 : Int) := pD_
            have q283 : x5_2 < (l0_1.length : Int) := pD_
            obtain ⟨ad283,A283_0,c283_0,e283,hx283_0,hl283_0,hi283_0⟩ := at_L4 HR0_1.out x5_2 p283 q283
            have hw283_0 := hx283_0
            cases e283
            replace hx283_0 := cB_ HB.out hx283_0
            have HR283_0 := aM_ hi283_0
            have HC283_0 := aM_ hl283_0
            clear hi283_0 hl283_0
            replace p283 := eq_true p283
            replace q283 := eq_true q283
            refine sTa_ 23 (fun w' => K_ w' gb281 0 (.int .i64 ((rd_T107 l1_0 x5_2).f0)) ∧ K_ w' gb281 1 (.slice A280_1 ((rd_T107 l1_0 x5_2).f1).length c280_1) ∧ K_ w' gb281 2 (.int .i64 ((rd_T107 l1_0 x5_2).f2)) ∧ K_ w' gb277 0 (.slice A0_0 l0_0.length c0_0) ∧ K_ w' gb277 1 (.slice (some ad283) l0_1.length c0_1) ∧ w'.cell? (ad283.add (x5_2).toNat) = some (.slice A283_0 (rd_L4 l0_1 x5_2).length c283_0)) [] ⟨(blk_cell BK281.out 0).trans rfl,(blk_cell BK281.out 1).trans rfl,(blk_cell BK281.out 2).trans rfl,(blk_cell BK277.out 0).trans rfl,(blk_cell BK277.out 1).trans rfl,(cB_ HB.out hw283_0 :)⟩ (fun hHeld => ?_);refine with_tabW spec_SourceOk.tab7 spec_SourceOk.bits7 (fun HT_ HW_ => ?_)
            generalize w43.drew = w44 at BK277 BK278 BK281 HB HR283_0 hx283_0 hHeld ⊢
            refine jU_ 0 48 23 1 ?_
            refine jK6_ 1 49 23 3 ?_
            refine jU_ 2 50 23 7 ?_
            refine jU_ 3 51 23 15 ?_
            refine jU_ 4 52 23 31 ?_
            refine jU_ 5 53 23 63 ?_
            refine jK6_ 6 54 23 127 ?_
            refine jN_ 7 55 23 255 (fun K hK => ?_)
            refine gO_ Try.func111 #[.int .i64 ((rd_T107 l1_0 x5_2).f2),.int .i64 0,.int .i64 2] ?_
            with_reducible refine (spec_l1In.calls ((rd_T107 l1_0 x5_2).f2) 0 2 true _ A39.out).mono ?_
            rintro e w' ⟨rfl,⟨nd,rfl⟩⟩
            refine ⟨_,rfl,?_⟩
            refine kO_ hK (some 55) ⟨(blk_cell BK281.out 0).trans rfl,(blk_cell BK281.out 1).trans rfl,(blk_cell BK281.out 2).trans rfl,(blk_cell BK277.out 0).trans rfl,(blk_cell BK277.out 1).trans rfl,(cB_ HB.out hw283_0 :)⟩ (fun hHeld => ?_)
            clear hK K
            refine jU_ 8 56 23 511 ?_
            refine jU_ 9 57 23 1023 ?_
            refine jU_ 10 58 23 2047 ?_
            refine jU_ 11 59 23 4095 ?_
            refine jU_ 13 61 23 12287 ?_
            refine jU_ 15 63 23 45055 ?_
            refine jK6_ 12 60 23 49151 ?_
            refine jK6_ 14 62 23 65535 ?_
            refine jU_ 16 64 23 131071 ?_
            refine jK6_ 17 65 23 262143 ?_
            refine jU_ 18 66 23 524287 ?_
            refine jU_ 19 67 23 1048575 ?_
            refine jN_ 20 68 23 2097151 (fun K hK => ?_)
            refine gO_ Try.func111 #[.int .i64 ((rd_T107 l1_0 x5_2).f0),.int .i64 0,.int .i64 (wrap64 (((rd_L4 l0_1 x5_2).length : Int) - 1))] ?_
            with_reducible refine (spec_l1In.calls ((rd_T107 l1_0 x5_2).f0) 0 (wrap64 (((rd_L4 l0_1 x5_2).length : Int) - 1)) t284 _ A42.out).mono ?_
            rintro e w' ⟨rfl,⟨nd,rfl⟩⟩
            refine ⟨_,rfl,?_⟩
            refine kO_ hK (some 68) ⟨(blk_cell BK281.out 0).trans rfl,(blk_cell BK281.out 1).trans rfl,(blk_cell BK281.out 2).trans rfl,(blk_cell BK277.out 0).trans rfl,(blk_cell BK277.out 1).trans rfl,(cB_ HB.out hw283_0 :)⟩ (fun hHeld => ?_)
            clear hK K
            refine jU_ 21 69 23 4194303 ?_
            refine jU_ 22 70 23 8388607 ?_
            refine done_ (done_of HT_.out (by kernel_rfl)) ?_
            try go_wp2
            go_meet
            case rel => exact ⟨_,(!t284),(by first | rfl | (simp;done) | (simp [*];done)),H',⟨by have := HJ2.out;have := HK2.out;first | omega | exact Nat.le_refl _⟩,⟨rW_ BK277.out⟩,⟨rW_ BK278.out⟩,⟨rW_ BK281.out⟩,⟨gW_ HB.out⟩⟩
           ·rw [if_neg c41] at H
            exact absurd H (by simp)
          ·replace c40 := Bool.eq_false_iff.mpr c40
           subst c40
           have H1 : (spec_SourceOk.j2 k2 x5_2 true l0_0 l0_1 l1_0 l1_1 l1_2) = some r := by rw [if_neg (show ¬ (false = true) by decide)] at H;exact H
           clear H
           have H := H1
           clear H1
           have H' := aM_ H
           clear H
           try go_wp2
           have n0 : Aside0 ((((w34.setCell ⟨gb281,0,none⟩ (.int .i64 ((rd_T107 l1_0 x5_2).f0))).setCell ⟨gb281,1,none⟩ (.slice A280_1 ((rd_T107 l1_0 x5_2).f1).length c280_1)).setCell ⟨gb281,2,none⟩ (.int .i64 ((rd_T107 l1_0 x5_2).f2))).heap[gb277]? = some (.cells #[.slice A0_0 l0_0.length c0_0,.slice A0_1 l0_1.length c0_1] 44 (0,0))) := ⟨rWf_ BK277.out⟩
           have n1 : Aside0 ((((w34.setCell ⟨gb281,0,none⟩ (.int .i64 ((rd_T107 l1_0 x5_2).f0))).setCell ⟨gb281,1,none⟩ (.slice A280_1 ((rd_T107 l1_0 x5_2).f1).length c280_1)).setCell ⟨gb281,2,none⟩ (.int .i64 ((rd_T107 l1_0 x5_2).f2))).heap[gb278]? = some (.cells #[.slice (some ad280) l1_0.length c1_0,.slice A1_1 l1_1.length c1_1,.slice A1_2 l1_2.length c1_2] 28 (0,0))) := ⟨rWf_ BK278.out⟩
           have n2 : Aside0 ((((w34.setCell ⟨gb281,0,none⟩ (.int .i64 ((rd_T107 l1_0 x5_2).f0))).setCell ⟨gb281,1,none⟩ (.slice A280_1 ((rd_T107 l1_0 x5_2).f1).length c280_1)).setCell ⟨gb281,2,none⟩ (.int .i64 ((rd_T107 l1_0 x5_2).f2))).heap[gb281]? = some (.cells #[.int .i64 ((rd_T107 l1_0 x5_2).f0),.slice A280_1 ((rd_T107 l1_0 x5_2).f1).length c280_1,.int .i64 ((rd_T107 l1_0 x5_2).f2)] 107 (0,0))) := ⟨by (with_reducible repeat (first | refine bN_ ?_ _ | refine bD_ ?_ | refine bA_ ?_ _));refine blk_put (cs := #[.int .i64 ((rd_T107 l1_0 x5_2).f0),.slice A280_1 ((rd_T107 l1_0 x5_2).f1).length c280_1,.int .i64 0]) ?_ 2 _ rfl;refine blk_put (cs := #[.int .i64 ((rd_T107 l1_0 x5_2).f0),.slice none 0 0,.int .i64 0]) ?_ 1 _ rfl;refine blk_put (cs := #[.int .i64 0,.slice none 0 0,.int .i64 0]) ?_ 0 _ rfl;(with_reducible repeat (first | refine bN_ ?_ _ | refine bD_ ?_ | refine bA_ ?_ _));exact BK281.out⟩
           have n3 : Aside0 (Below w.heap.size w (((w34.setCell ⟨gb281,0,none⟩ (.int .i64 ((rd_T107 l1_0 x5_2).f0))).setCell ⟨gb281,1,none⟩ (.slice A280_1 ((rd_T107 l1_0 x5_2).f1).length c280_1)).setCell ⟨gb281,2,none⟩ (.int .i64 ((rd_T107 l1_0 x5_2).f2)))) := ⟨gW_ HB.out⟩
           (try clear BK277)
           (try clear BK278)
           (try clear BK281)
           (try clear HB)
           generalize (((w34.setCell ⟨gb281,0,none⟩ (.int .i64 ((rd_T107 l1_0 x5_2).f0))).setCell ⟨gb281,1,none⟩ (.slice A280_1 ((rd_T107 l1_0 x5_2).f1).length c280_1)).setCell ⟨gb281,2,none⟩ (.int .i64 ((rd_T107 l1_0 x5_2).f2))) = w45 at n0 n1 n2 n3 ⊢
           have BK277 := n0
           have BK278 := n1
           have BK281 := n2
           have HB := n3
           clear n0 n1 n2 n3
           replace BK277 := aM_ (blk_drew BK277.out)
           replace BK278 := aM_ (blk_drew BK278.out)
           replace BK281 := aM_ (blk_drew BK281.out)
           replace HB := aM_ (below_drew1 HB.out)
           refine sTa_ 23 (fun w' => K_ w' gb281 0 (.int .i64 ((rd_T107 l1_0 x5_2).f0)) ∧ K_ w' gb281 1 (.slice A280_1 ((rd_T107 l1_0 x5_2).f1).length c280_1) ∧ K_ w' gb281 2 (.int .i64 ((rd_T107 l1_0 x5_2).f2))) [] (bC3_ BK281.out) (fun hHeld => ?_);refine with_tabW spec_SourceOk.tab7 spec_SourceOk.bits7 (fun HT_ HW_ => ?_)
           generalize w45.drew = w46 at BK277 BK278 BK281 HB hHeld ⊢
           refine jU_ 0 48 23 1 ?_
           refine jK3_ 1 49 23 3 ?_
           refine jU_ 2 50 23 7 ?_
           refine jU_ 3 51 23 15 ?_
           refine jU_ 4 52 23 31 ?_
           refine jU_ 5 53 23 63 ?_
           refine jK3_ 6 54 23 127 ?_
           refine jN_ 7 55 23 255 (fun K hK => ?_)
           refine gO_ Try.func111 #[.int .i64 ((rd_T107 l1_0 x5_2).f2),.int .i64 0,.int .i64 2] ?_
           with_reducible refine (spec_l1In.calls ((rd_T107 l1_0 x5_2).f2) 0 2 false _ A39.out).mono ?_
           rintro e w' ⟨rfl,⟨nd,rfl⟩⟩
           refine ⟨_,rfl,?_⟩
           refine kO_ hK (some 55) (bC3_ BK281.out) (fun hHeld => ?_)
           clear hK K
           refine jU_ 8 56 23 511 ?_
           refine jU_ 9 57 23 1023 ?_
           refine jU_ 10 58 23 2047 ?_
           refine jX_ 11 59 23 4095 ?_
           refine jX_ 12 60 23 8191 ?_
           refine jX_ 13 61 23 16383 ?_
           refine jX_ 14 62 23 32767 ?_
           refine jX_ 15 63 23 65535 ?_
           refine jX_ 16 64 23 131071 ?_
           refine jX_ 17 65 23 262143 ?_
           refine jX_ 18 66 23 524287 ?_
           refine jX_ 19 67 23 1048575 ?_
           refine jX_ 20 68 23 2097151 ?_
           refine jX_ 21 69 23 4194303 ?_
           refine jU_ 22 70 23 8388607 ?_
           refine done_ (done_of HT_.out (by kernel_rfl)) ?_
           try go_wp2
           go_meet
           case rel => exact ⟨_,(true),(by first | rfl | (simp;done) | (simp [*];done)),H',⟨by have := HJ2.out;have := HK2.out;first | omega | exact Nat.le_refl _⟩,⟨rW_ BK277.out⟩,⟨rW_ BK278.out⟩,⟨rW_ BK281.out⟩,⟨gW_ HB.out⟩⟩
         ·rw [if_neg c38] at H
          have c38b0 : ((((rd_T107 l1_0 x5_2).f1).length : Int) == 4) = false := beq_eq_false_iff_ne.mpr c38
          have c38b1 : ((((rd_T107 l1_0 x5_2).f1).length : Int) != 4) = true := bne_iff_ne.mpr c38
          (first | rw [c38b0] | (simp only [i64_w,i32_w];rw [c38b0]) | skip)
          have H' := aM_ H
          clear H
          try go_wp2
          have n0 : Aside0 ((((w34.setCell ⟨gb281,0,none⟩ (.int .i64 ((rd_T107 l1_0 x5_2).f0))).setCell ⟨gb281,1,none⟩ (.slice A280_1 ((rd_T107 l1_0 x5_2).f1).length c280_1)).setCell ⟨gb281,2,none⟩ (.int .i64 ((rd_T107 l1_0 x5_2).f2))).heap[gb277]? = some (.cells #[.slice A0_0 l0_0.length c0_0,.slice A0_1 l0_1.length c0_1] 44 (0,0))) := ⟨rWf_ BK277.out⟩
          have n1 : Aside0 ((((w34.setCell ⟨gb281,0,none⟩ (.int .i64 ((rd_T107 l1_0 x5_2).f0))).setCell ⟨gb281,1,none⟩ (.slice A280_1 ((rd_T107 l1_0 x5_2).f1).length c280_1)).setCell ⟨gb281,2,none⟩ (.int .i64 ((rd_T107 l1_0 x5_2).f2))).heap[gb278]? = some (.cells #[.slice (some ad280) l1_0.length c1_0,.slice A1_1 l1_1.length c1_1,.slice A1_2 l1_2.length c1_2] 28 (0,0))) := ⟨rWf_ BK278.out⟩
          have n2 : Aside0 ((((w34.setCell ⟨gb281,0,none⟩ (.int .i64 ((rd_T107 l1_0 x5_2).f0))).setCell ⟨gb281,1,none⟩ (.slice A280_1 ((rd_T107 l1_0 x5_2).f1).length c280_1)).setCell ⟨gb281,2,none⟩ (.int .i64 ((rd_T107 l1_0 x5_2).f2))).heap[gb281]? = some (.cells #[.int .i64 ((rd_T107 l1_0 x5_2).f0),.slice A280_1 ((rd_T107 l1_0 x5_2).f1).length c280_1,.int .i64 ((rd_T107 l1_0 x5_2).f2)] 107 (0,0))) := ⟨by (with_reducible repeat (first | refine bN_ ?_ _ | refine bD_ ?_ | refine bA_ ?_ _));refine blk_put (cs := #[.int .i64 ((rd_T107 l1_0 x5_2).f0),.slice A280_1 ((rd_T107 l1_0 x5_2).f1).length c280_1,.int .i64 0]) ?_ 2 _ rfl;refine blk_put (cs := #[.int .i64 ((rd_T107 l1_0 x5_2).f0),.slice none 0 0,.int .i64 0]) ?_ 1 _ rfl;refine blk_put (cs := #[.int .i64 0,.slice none 0 0,.int .i64 0]) ?_ 0 _ rfl;(with_reducible repeat (first | refine bN_ ?_ _ | refine bD_ ?_ | refine bA_ ?_ _));exact BK281.out⟩
          have n3 : Aside0 (Below w.heap.size w (((w34.setCell ⟨gb281,0,none⟩ (.int .i64 ((rd_T107 l1_0 x5_2).f0))).setCell ⟨gb281,1,none⟩ (.slice A280_1 ((rd_T107 l1_0 x5_2).f1).length c280_1)).setCell ⟨gb281,2,none⟩ (.int .i64 ((rd_T107 l1_0 x5_2).f2)))) := ⟨gW_ HB.out⟩
          (try clear BK277)
          (try clear BK278)
          (try clear BK281)
          (try clear HB)
          generalize (((w34.setCell ⟨gb281,0,none⟩ (.int .i64 ((rd_T107 l1_0 x5_2).f0))).setCell ⟨gb281,1,none⟩ (.slice A280_1 ((rd_T107 l1_0 x5_2).f1).length c280_1)).setCell ⟨gb281,2,none⟩ (.int .i64 ((rd_T107 l1_0 x5_2).f2))) = w47 at n0 n1 n2 n3 ⊢
          have BK277 := n0
          have BK278 := n1
          have BK281 := n2
          have HB := n3
          clear n0 n1 n2 n3
          replace BK277 := aM_ (blk_drew BK277.out)
          replace BK278 := aM_ (blk_drew BK278.out)
          replace BK281 := aM_ (blk_drew BK281.out)
          replace HB := aM_ (below_drew1 HB.out)
          refine sTa_ 23 (fun w' => K_ w' gb281 0 (.int .i64 ((rd_T107 l1_0 x5_2).f0)) ∧ K_ w' gb281 1 (.slice A280_1 ((rd_T107 l1_0 x5_2).f1).length c280_1) ∧ K_ w' gb281 2 (.int .i64 ((rd_T107 l1_0 x5_2).f2))) [] (bC3_ BK281.out) (fun hHeld => ?_);refine with_tabW spec_SourceOk.tab7 spec_SourceOk.bits7 (fun HT_ HW_ => ?_)
          generalize w47.drew = w48 at BK277 BK278 BK281 HB hHeld ⊢
          refine jU_ 0 48 23 1 ?_
          refine jK3_ 1 49 23 3 ?_
          refine jU_ 2 50 23 7 ?_
          refine jU_ 3 51 23 15 ?_
          refine jU_ 4 52 23 31 ?_
          refine jX_ 5 53 23 63 ?_
          refine jX_ 6 54 23 127 ?_
          refine jX_ 7 55 23 255 ?_
          refine jX_ 8 56 23 511 ?_
          refine jU_ 9 57 23 1023 ?_
          refine jU_ 10 58 23 2047 ?_
          refine jX_ 11 59 23 4095 ?_
          refine jX_ 12 60 23 8191 ?_
          refine jX_ 13 61 23 16383 ?_
          refine jX_ 14 62 23 32767 ?_
          refine jX_ 15 63 23 65535 ?_
          refine jX_ 16 64 23 131071 ?_
          refine jX_ 17 65 23 262143 ?_
          refine jX_ 18 66 23 524287 ?_
          refine jX_ 19 67 23 1048575 ?_
          refine jX_ 20 68 23 2097151 ?_
          refine jX_ 21 69 23 4194303 ?_
          refine jU_ 22 70 23 8388607 ?_
          refine done_ (done_of HT_.out (by kernel_rfl)) ?_
          try go_wp2
          go_meet
          case rel => exact ⟨_,(true),(by first | rfl | (simp;done) | (simp [*];done)),H',⟨by have := HJ2.out;have := HK2.out;first | omega | exact Nat.le_refl _⟩,⟨rW_ BK277.out⟩,⟨rW_ BK278.out⟩,⟨rW_ BK281.out⟩,⟨gW_ HB.out⟩⟩
        case rest =>
         clear HC31
         (try clear c1);(try clear c2);(try clear p2);(try clear q2);(try clear hx2);(try clear c3);(try clear c4);(try clear p6);(try clear c11);(try clear c28);(try clear p28);(try clear q28);(try clear hx28);(try clear c38);(try clear c38b0);(try clear c38b1);(try clear c40);(try clear c41);(try clear c41b0);(try clear hx283_0);(try clear p283);(try clear q283)
         obtain ⟨kq,x70_30,rfl,HA,HJ30,BK277,BK278,BK281,HB⟩ := hcut
         cases kq with
         | zero => exact absurd HA.out (by simp [spec_SourceOk.j2])
         | succ kj30 =>
          have H := HA.out
          clear HA
          simp only [spec_SourceOk.j2] at H
          by_cases c49 : x70_30 = true
          ·subst c49
           have H1 : (some false) = some r := by rw [if_pos rfl] at H;exact H
           clear H
           have H := H1
           clear H1
           obtain rfl := sJ_ H
           go_wp2
           go_ret
           exact fI_ HB.out
          ·replace c49 := Bool.eq_false_iff.mpr c49
           subst c49
           have H1 : (spec_SourceOk.l0 kj30 (wrap64 (x5_2 + 1)) l0_0 l0_1 l1_0 l1_1 l1_2) = some r := by rw [if_neg (show ¬ (false = true) by decide)] at H;exact H
           clear H
           have H := H1
           clear H1
           have H' := aM_ H
           clear H
           go_wp2
           go_roundg kj30
           case measure => have := HJ2.out;have := HK2.out;have := HJ30.out;omega
           case rel => exact ⟨(wrap64 (x5_2 + 1)),(by first | rfl | (simp;done) | (simp [*];done)),H',⟨by have := HJ2.out;have := HK2.out;have := HJ30.out;omega⟩,⟨rW_ BK277.out⟩,⟨rW_ BK278.out⟩,⟨gW_ HB.out⟩⟩
       ·rw [if_neg c30] at H
        exact absurd H (by simp)
      ·rw [if_neg c29] at H
       have c29b0 : decide (x5_2 < (l1_0.length : Int)) = false := decide_eq_false c29
       clear c29
       have H' := aM_ H
       clear H
       have hnb50 := NB278_277.out
       have hnc50 := NB277_278.out
       have z_51 := bR3_ BK278.out
       go_wp2
       go_loopg [7] k2 (fun kq v7 w' => ∃ (x7_3 : Int),v7 = .int .i64 x7_3 ∧ Aside0 (spec_SourceOk.l1 kq x7_3 l0_0 l0_1 l1_0 l1_1 l1_2 = some r) ∧ Aside0 (kq ≤ k2) ∧ Aside0 (w'.heap[gb277]? = some (.cells #[(.slice A0_0 l0_0.length c0_0),(.slice A0_1 l0_1.length c0_1)] 44 (0,0))) ∧ Aside0 (w'.heap[gb278]? = some (.cells #[(.slice A1_0 l1_0.length c1_0),(.slice A1_1 l1_1.length c1_1),(.slice A1_2 l1_2.length c1_2)] 28 (0,0))) ∧ Aside0 (Below w.heap.size w w'))
       case atStart => exact ⟨(0),(by first | rfl | (simp;done) | (simp [*];done)),H',⟨Nat.le_refl _⟩,⟨rW_ BK277.out⟩,⟨rW_ BK278.out⟩,⟨gW_ HB.out⟩⟩
       case round =>
        clear H'
        (try clear c1);(try clear c2);(try clear p2);(try clear q2);(try clear hx2);(try clear c3);(try clear c4);(try clear c5);(try clear p6);(try clear c11);(try clear c28);(try clear p28);(try clear q28);(try clear hx28);(try clear c29);(try clear c29b0);(try clear c30);(try clear c38);(try clear c38b0);(try clear c38b1);(try clear c40);(try clear c41);(try clear c41b0);(try clear c49);(try clear c50);(try clear z_51);(try clear hx283_0);(try clear p2);(try clear p28);(try clear p283);(try clear p6);(try clear q2);(try clear q28);(try clear q283)
        obtain ⟨x7_3,rfl,HA,HK3,BK277,BK278,HB⟩ := hrel
        cases gk with
        | zero => exact absurd HA.out (by simp [spec_SourceOk.l1])
        | succ k3 =>
         have H := HA.out
         clear HA
         simp only [spec_SourceOk.l1] at H
         by_cases c52 : x7_3 < (l1_1.length : Int)
         ·rw [if_pos c52] at H
          have c52b0 : decide (x7_3 < (l1_1.length : Int)) = true := decide_eq_true c52
          clear c52
          by_cases c53 : 0 ≤ x7_3
          ·rw [if_pos c53] at H
           have c53b0 : decide (0 ≤ x7_3) = true := decide_eq_true c53
           clear c53
           replace H := Option.bind_eq_some_iff.mp H
           obtain ⟨t286,A540,H⟩ := H
           replace H : (if t286 = true then (if x7_3 < (l0_0.length : Int) then (if ((rd_T94 l1_1 x7_3).f0) = (rd l0_0 x7_3) then (spec_SourceOk.l1 k3 (wrap64 (x7_3 + 1)) l0_0 l0_1 l1_0 l1_1 l1_2) else (some false)) else (none)) else (some false)) = some r := H
           have A54 := aM_ A540
           clear A540
           by_cases c55 : t286 = true
           ·subst c55
            have H1 : (if x7_3 < (l0_0.length : Int) then (if ((rd_T94 l1_1 x7_3).f0) = (rd l0_0 x7_3) then (spec_SourceOk.l1 k3 (wrap64 (x7_3 + 1)) l0_0 l0_1 l1_0 l1_1 l1_2) else (some false)) else (none)) = some r := by rw [if_pos rfl] at H;exact H
            clear H
            have H := H1
            clear H1
            by_cases c56 : x7_3 < (l0_0.length : Int)
            ·rw [if_pos c56] at H
             have c56b0 : decide (x7_3 < (l0_0.length : Int)) = true := decide_eq_true c56
             clear c56
             by_cases c57 : ((rd_T94 l1_1 x7_3).f0) = (rd l0_0 x7_3)
             ·rw [if_pos c57] at H
              have c57b0 : (((rd_T94 l1_1 x7_3).f0) == (rd l0_0 x7_3)) = true := beq_iff_eq.mpr c57
              have c57b1 : (((rd_T94 l1_1 x7_3).f0) != (rd l0_0 x7_3)) = false := bne_eq_false_iff_eq.mpr c57
              clear c57
              have H' := aM_ H
              clear H
              have hnb58 := NB278_277.out
              have hnc58 := NB277_278.out
              have z_59 := bR3_ BK278.out
              try go_wp2
              replace BK277 := aM_ (blk_drew BK277.out)
              replace BK278 := aM_ (blk_drew BK278.out)
              replace HB := aM_ (below_drew1 HB.out)
              have p285 : 0 ≤ (x7_3 : Int) := pD_
              have q285 : x7_3 < (l1_1.length : Int) := pD_
              obtain ⟨ad285,A285_1,c285_1,e285,hx285_0,hx285_1,hx285_2,hl285_1,hi285_1⟩ := at_T94 HR1_1.out x7_3 p285 q285
              have hw285_2 := hx285_2
              have hw285_1 := hx285_1
              have hw285_0 := hx285_0
              cases e285
              replace hx285_0 := cB_ HB.out hx285_0
              replace hx285_1 := cB_ HB.out hx285_1
              replace hx285_2 := cB_ HB.out hx285_2
              have HR285_1 := aM_ hi285_1
              have HC285_1 := aM_ hl285_1
              clear hi285_1 hl285_1
              replace p285 := eq_true p285
              replace q285 := eq_true q285
              have p287 : 0 ≤ (x7_3 : Int) := pD_
              have q287 : x7_3 < (l1_1.length : Int) := pD_
              obtain ⟨ad287,A287_1,c287_1,e287,hx287_0,hx287_1,hx287_2,hl287_1,hi287_1⟩ := at_T94 HR1_1.out x7_3 p287 q287
              have hw287_2 := hx287_2
              have hw287_1 := hx287_1
              have hw287_0 := hx287_0
              obtain rfl : ad285 = ad287 := (by injection e287)
              replace hx287_0 := cB_ HB.out hx287_0
              replace hx287_1 := cB_ HB.out hx287_1
              replace hx287_2 := cB_ HB.out hx287_2
              have HR287_1 := aM_ hi287_1
              have HC287_1 := aM_ hl287_1
              clear hi287_1 hl287_1
              replace p287 := eq_true p287
              replace q287 := eq_true q287
              have p288 : 0 ≤ (x7_3 : Int) := pD_
              have q288 : x7_3 < (l0_0.length : Int) := pD_
              obtain ⟨ad288,e288,hx288_0⟩ := Kd.at_int HR0_0.out x7_3 p288 q288
              have hw288_0 := hx288_0
              cases e288
              replace hx288_0 := cB_ HB.out hx288_0
              replace p288 := eq_true p288
              replace q288 := eq_true q288
              refine sTa_ 21 (fun w' => K_ w' gb278 0 (.slice A1_0 l1_0.length c1_0) ∧ K_ w' gb278 1 (.slice (some ad285) l1_1.length c1_1) ∧ K_ w' gb278 2 (.slice A1_2 l1_2.length c1_2) ∧ K_ w' gb277 0 (.slice (some ad288) l0_0.length c0_0) ∧ K_ w' gb277 1 (.slice A0_1 l0_1.length c0_1) ∧ w'.cell? (ad285.add ((x7_3).toNat * 3)) = some (.int .i64 ((rd_T94 l1_1 x7_3).f0)) ∧ w'.cell? ⟨(ad285.add ((x7_3).toNat * 3)).block,(ad285.add ((x7_3).toNat * 3)).off + 1,none⟩ = some (.slice A285_1 ((rd_T94 l1_1 x7_3).f1).length c285_1) ∧ w'.cell? ⟨(ad285.add ((x7_3).toNat * 3)).block,(ad285.add ((x7_3).toNat * 3)).off + 2,none⟩ = some (.bool ((rd_T94 l1_1 x7_3).f2)) ∧ w'.cell? (ad285.add ((x7_3).toNat * 3)) = some (.int .i64 ((rd_T94 l1_1 x7_3).f0)) ∧ w'.cell? ⟨(ad285.add ((x7_3).toNat * 3)).block,(ad285.add ((x7_3).toNat * 3)).off + 1,none⟩ = some (.slice A287_1 ((rd_T94 l1_1 x7_3).f1).length c287_1) ∧ w'.cell? ⟨(ad285.add ((x7_3).toNat * 3)).block,(ad285.add ((x7_3).toNat * 3)).off + 2,none⟩ = some (.bool ((rd_T94 l1_1 x7_3).f2)) ∧ w'.cell? (ad288.add (x7_3).toNat) = some (.int .i64 (rd l0_0 x7_3))) [] ⟨(blk_cell BK278.out 0).trans rfl,(blk_cell BK278.out 1).trans rfl,(blk_cell BK278.out 2).trans rfl,(blk_cell BK277.out 0).trans rfl,(blk_cell BK277.out 1).trans rfl,(cB_ HB.out hw285_0 :),(cB_ HB.out hw285_1 :),(cB_ HB.out hw285_2 :),(cB_ HB.out hw287_0 :),(cB_ HB.out hw287_1 :),(cB_ HB.out hw287_2 :),(cB_ HB.out hw288_0 :)⟩ (fun hHeld => ?_);refine with_tabW spec_SourceOk.tab12 spec_SourceOk.bits12 (fun HT_ HW_ => ?_)
              generalize wr.drew = w60 at BK277 BK278 HB HR285_1 HR287_1 hx285_0 hx285_1 hx285_2 hx287_0 hx287_1 hx287_2 hx288_0 hHeld ⊢
              refine jU_ 0 78 21 1 ?_
              refine jU_ 2 80 21 5 ?_
              refine jK12_ 1 79 21 7 ?_
              refine jU_ 3 81 21 15 ?_
              refine jK12_ 4 82 21 31 ?_
              refine jN_ 5 83 21 63 (fun K hK => ?_)
              refine gO_ Try.func146 #[.agg #[.int .i64 ((rd_T94 l1_1 x7_3).f0),.slice A285_1 ((rd_T94 l1_1 x7_3).f1).length c285_1,.bool ((rd_T94 l1_1 x7_3).f2)]] ?_
              with_reducible refine (spec_ChanOk.calls ((rd_T94 l1_1 x7_3).f0) _ _ ((rd_T94 l1_1 x7_3).f1) ((rd_T94 l1_1 x7_3).f2) true _ ?side1 ?side2 A54.out).mono ?_
              (case side1 => exact cS_ (Kd.C_below HR285_1.out HB.out))
              (case side2 => exact HC285_1.out)
              rintro e w61 ⟨rfl,hb⟩
              refine ⟨_,rfl,?_⟩
              replace BK277 := aM_ (nB_ BK277.out hb)
              replace BK278 := aM_ (nB_ BK278.out hb)
              replace HB := aM_ (sT_ HB.out hb)
              (try clear hb)
              (try clear hb2)
              (try clear hk)
              (try clear hi)
              refine kO_ hK (some 83) ⟨(blk_cell BK278.out 0).trans rfl,(blk_cell BK278.out 1).trans rfl,(blk_cell BK278.out 2).trans rfl,(blk_cell BK277.out 0).trans rfl,(blk_cell BK277.out 1).trans rfl,(cB_ HB.out hw285_0 :),(cB_ HB.out hw285_1 :),(cB_ HB.out hw285_2 :),(cB_ HB.out hw287_0 :),(cB_ HB.out hw287_1 :),(cB_ HB.out hw287_2 :),(cB_ HB.out hw288_0 :)⟩ (fun hHeld => ?_)
              clear hK K
              refine jU_ 6 84 21 127 ?_
              refine jU_ 7 85 21 255 ?_
              refine jU_ 8 86 21 511 ?_
              refine jU_ 10 88 21 1535 ?_
              refine jU_ 14 92 21 17919 ?_
              refine jU_ 16 94 21 83455 ?_
              refine jK12_ 9 87 21 83967 ?_
              refine jU_ 11 89 21 86015 ?_
              refine jU_ 12 90 21 90111 ?_
              refine jK12_ 13 91 21 98303 ?_
              refine jK12_ 15 93 21 131071 ?_
              refine jU_ 17 95 21 262143 ?_
              refine jK12_ 18 96 21 524287 ?_
              refine jU_ 19 97 21 1048575 ?_
              refine jU_ 20 98 21 2097151 ?_
              refine done_ (done_of HT_.out (by kernel_rfl)) ?_
              try go_wp2
              go_roundg k3
              case measure => have := HJ2.out;have := HK2.out;have := HK3.out;omega
              case rel => exact ⟨(wrap64 (x7_3 + 1)),(by first | rfl | (simp;done) | (simp [*];done)),H',⟨by have := HJ2.out;have := HK2.out;have := HK3.out;omega⟩,⟨rW_ BK277.out⟩,⟨rW_ BK278.out⟩,⟨gW_ HB.out⟩⟩
             ·rw [if_neg c57] at H
              have c57b0 : (((rd_T94 l1_1 x7_3).f0) == (rd l0_0 x7_3)) = false := beq_eq_false_iff_ne.mpr c57
              have c57b1 : (((rd_T94 l1_1 x7_3).f0) != (rd l0_0 x7_3)) = true := bne_iff_ne.mpr c57
              obtain rfl := sJ_ H
              have hnb62 := NB278_277.out
              have hnc62 := NB277_278.out
              have z_63 := bR3_ BK278.out
              try go_wp2
              replace BK277 := aM_ (blk_drew BK277.out)
              replace BK278 := aM_ (blk_drew BK278.out)
              replace HB := aM_ (below_drew1 HB.out)
              have p285 : 0 ≤ (x7_3 : Int) := pD_
              have q285 : x7_3 < (l1_1.length : Int) := pD_
              obtain ⟨ad285,A285_1,c285_1,e285,hx285_0,hx285_1,hx285_2,hl285_1,hi285_1⟩ := at_T94 HR1_1.out x7_3 p285 q285
              have hw285_2 := hx285_2
              have hw285_1 := hx285_1
              have hw285_0 := hx285_0
              cases e285
              replace hx285_0 := cB_ HB.out hx285_0
              replace hx285_1 := cB_ HB.out hx285_1
              replace hx285_2 := cB_ HB.out hx285_2
              have HR285_1 := aM_ hi285_1
              have HC285_1 := aM_ hl285_1
              clear hi285_1 hl285_1
              replace p285 := eq_true p285
              replace q285 := eq_true q285
              have p287 : 0 ≤ (x7_3 : Int) := pD_
              have q287 : x7_3 < (l1_1.length : Int) := pD_
              obtain ⟨ad287,A287_1,c287_1,e287,hx287_0,hx287_1,hx287_2,hl287_1,hi287_1⟩ := at_T94 HR1_1.out x7_3 p287 q287
              have hw287_2 := hx287_2
              have hw287_1 := hx287_1
              have hw287_0 := hx287_0
              obtain rfl : ad285 = ad287 := (by injection e287)
              replace hx287_0 := cB_ HB.out hx287_0
              replace hx287_1 := cB_ HB.out hx287_1
              replace hx287_2 := cB_ HB.out hx287_2
              have HR287_1 := aM_ hi287_1
              have HC287_1 := aM_ hl287_1
              clear hi287_1 hl287_1
              replace p287 := eq_true p287
              replace q287 := eq_true q287
              have p288 : 0 ≤ (x7_3 : Int) := pD_
              have q288 : x7_3 < (l0_0.length : Int) := pD_
              obtain ⟨ad288,e288,hx288_0⟩ := Kd.at_int HR0_0.out x7_3 p288 q288
              have hw288_0 := hx288_0
              cases e288
              replace hx288_0 := cB_ HB.out hx288_0
              replace p288 := eq_true p288
              replace q288 := eq_true q288
              refine sTa_ 21 (fun w' => K_ w' gb278 0 (.slice A1_0 l1_0.length c1_0) ∧ K_ w' gb278 1 (.slice (some ad285) l1_1.length c1_1) ∧ K_ w' gb278 2 (.slice A1_2 l1_2.length c1_2) ∧ K_ w' gb277 0 (.slice (some ad288) l0_0.length c0_0) ∧ K_ w' gb277 1 (.slice A0_1 l0_1.length c0_1) ∧ w'.cell? (ad285.add ((x7_3).toNat * 3)) = some (.int .i64 ((rd_T94 l1_1 x7_3).f0)) ∧ w'.cell? ⟨(ad285.add ((x7_3).toNat * 3)).block,(ad285.add ((x7_3).toNat * 3)).off + 1,none⟩ = some (.slice A285_1 ((rd_T94 l1_1 x7_3).f1).length c285_1) ∧ w'.cell? ⟨(ad285.add ((x7_3).toNat * 3)).block,(ad285.add ((x7_3).toNat * 3)).off + 2,none⟩ = some (.bool ((rd_T94 l1_1 x7_3).f2)) ∧ w'.cell? (ad285.add ((x7_3).toNat * 3)) = some (.int .i64 ((rd_T94 l1_1 x7_3).f0)) ∧ w'.cell? ⟨(ad285.add ((x7_3).toNat * 3)).block,(ad285.add ((x7_3).toNat * 3)).off + 1,none⟩ = some (.slice A287_1 ((rd_T94 l1_1 x7_3).f1).length c287_1) ∧ w'.cell? ⟨(ad285.add ((x7_3).toNat * 3)).block,(ad285.add ((x7_3).toNat * 3)).off + 2,none⟩ = some (.bool ((rd_T94 l1_1 x7_3).f2)) ∧ w'.cell? (ad288.add (x7_3).toNat) = some (.int .i64 (rd l0_0 x7_3))) [] ⟨(blk_cell BK278.out 0).trans rfl,(blk_cell BK278.out 1).trans rfl,(blk_cell BK278.out 2).trans rfl,(blk_cell BK277.out 0).trans rfl,(blk_cell BK277.out 1).trans rfl,(cB_ HB.out hw285_0 :),(cB_ HB.out hw285_1 :),(cB_ HB.out hw285_2 :),(cB_ HB.out hw287_0 :),(cB_ HB.out hw287_1 :),(cB_ HB.out hw287_2 :),(cB_ HB.out hw288_0 :)⟩ (fun hHeld => ?_);refine with_tabW spec_SourceOk.tab12 spec_SourceOk.bits12 (fun HT_ HW_ => ?_)
              generalize wr.drew = w64 at BK277 BK278 HB HR285_1 HR287_1 hx285_0 hx285_1 hx285_2 hx287_0 hx287_1 hx287_2 hx288_0 hHeld ⊢
              refine jU_ 0 78 21 1 ?_
              refine jU_ 2 80 21 5 ?_
              refine jK12_ 1 79 21 7 ?_
              refine jU_ 3 81 21 15 ?_
              refine jK12_ 4 82 21 31 ?_
              refine jN_ 5 83 21 63 (fun K hK => ?_)
              refine gO_ Try.func146 #[.agg #[.int .i64 ((rd_T94 l1_1 x7_3).f0),.slice A285_1 ((rd_T94 l1_1 x7_3).f1).length c285_1,.bool ((rd_T94 l1_1 x7_3).f2)]] ?_
              with_reducible refine (spec_ChanOk.calls ((rd_T94 l1_1 x7_3).f0) _ _ ((rd_T94 l1_1 x7_3).f1) ((rd_T94 l1_1 x7_3).f2) true _ ?side1 ?side2 A54.out).mono ?_
              (case side1 => exact cS_ (Kd.C_below HR285_1.out HB.out))
              (case side2 => exact HC285_1.out)
              rintro e w65 ⟨rfl,hb⟩
              refine ⟨_,rfl,?_⟩
              replace BK277 := aM_ (nB_ BK277.out hb)
              replace BK278 := aM_ (nB_ BK278.out hb)
              replace HB := aM_ (sT_ HB.out hb)
              (try clear hb)
              (try clear hb2)
              (try clear hk)
              (try clear hi)
              refine kO_ hK (some 83) ⟨(blk_cell BK278.out 0).trans rfl,(blk_cell BK278.out 1).trans rfl,(blk_cell BK278.out 2).trans rfl,(blk_cell BK277.out 0).trans rfl,(blk_cell BK277.out 1).trans rfl,(cB_ HB.out hw285_0 :),(cB_ HB.out hw285_1 :),(cB_ HB.out hw285_2 :),(cB_ HB.out hw287_0 :),(cB_ HB.out hw287_1 :),(cB_ HB.out hw287_2 :),(cB_ HB.out hw288_0 :)⟩ (fun hHeld => ?_)
              clear hK K
              refine jU_ 6 84 21 127 ?_
              refine jU_ 7 85 21 255 ?_
              refine jU_ 8 86 21 511 ?_
              refine jU_ 10 88 21 1535 ?_
              refine jU_ 14 92 21 17919 ?_
              refine jU_ 16 94 21 83455 ?_
              refine jK12_ 9 87 21 83967 ?_
              refine jU_ 11 89 21 86015 ?_
              refine jU_ 12 90 21 90111 ?_
              refine jK12_ 13 91 21 98303 ?_
              refine jK12_ 15 93 21 131071 ?_
              refine jU_ 17 95 21 262143 ?_
              refine jK12_ 18 96 21 524287 ?_
              refine jU_ 19 97 21 1048575 ?_
              refine jU_ 20 98 21 2097151 ?_
              refine done_ (done_of HT_.out (by kernel_rfl)) ?_
              try go_wp2
              go_ret
              exact fI_ HB.out
            ·rw [if_neg c56] at H
             exact absurd H (by simp)
           ·replace c55 := Bool.eq_false_iff.mpr c55
            subst c55
            have H1 := hF_ H
            clear H
            have H := H1
            clear H1
            obtain rfl := sJ_ H
            have hnb66 := NB278_277.out
            have hnc66 := NB277_278.out
            have z_67 := bR3_ BK278.out
            try go_wp2
            replace BK277 := aM_ (blk_drew BK277.out)
            replace BK278 := aM_ (blk_drew BK278.out)
            replace HB := aM_ (below_drew1 HB.out)
            have p285 : 0 ≤ (x7_3 : Int) := pD_
            have q285 : x7_3 < (l1_1.length : Int) := pD_
            obtain ⟨ad285,A285_1,c285_1,e285,hx285_0,hx285_1,hx285_2,hl285_1,hi285_1⟩ := at_T94 HR1_1.out x7_3 p285 q285
            have hw285_2 := hx285_2
            have hw285_1 := hx285_1
            have hw285_0 := hx285_0
            cases e285
            replace hx285_0 := cB_ HB.out hx285_0
            replace hx285_1 := cB_ HB.out hx285_1
            replace hx285_2 := cB_ HB.out hx285_2
            have HR285_1 := aM_ hi285_1
            have HC285_1 := aM_ hl285_1
            clear hi285_1 hl285_1
            replace p285 := eq_true p285
            replace q285 := eq_true q285
            refine sTa_ 21 (fun w' => K_ w' gb278 0 (.slice A1_0 l1_0.length c1_0) ∧ K_ w' gb278 1 (.slice (some ad285) l1_1.length c1_1) ∧ K_ w' gb278 2 (.slice A1_2 l1_2.length c1_2) ∧ w'.cell? (ad285.add ((x7_3).toNat * 3)) = some (.int .i64 ((rd_T94 l1_1 x7_3).f0)) ∧ w'.cell? ⟨(ad285.add ((x7_3).toNat * 3)).block,(ad285.add ((x7_3).toNat * 3)).off + 1,none⟩ = some (.slice A285_1 ((rd_T94 l1_1 x7_3).f1).length c285_1) ∧ w'.cell? ⟨(ad285.add ((x7_3).toNat * 3)).block,(ad285.add ((x7_3).toNat * 3)).off + 2,none⟩ = some (.bool ((rd_T94 l1_1 x7_3).f2))) [] ⟨(blk_cell BK278.out 0).trans rfl,(blk_cell BK278.out 1).trans rfl,(blk_cell BK278.out 2).trans rfl,(cB_ HB.out hw285_0 :),(cB_ HB.out hw285_1 :),(cB_ HB.out hw285_2 :)⟩ (fun hHeld => ?_);refine with_tabW spec_SourceOk.tab12 spec_SourceOk.bits12 (fun HT_ HW_ => ?_)
            generalize wr.drew = w68 at BK277 BK278 HB HR285_1 hx285_0 hx285_1 hx285_2 hHeld ⊢
            refine jU_ 0 78 21 1 ?_
            refine jU_ 2 80 21 5 ?_
            refine jK6_ 1 79 21 7 ?_
            refine jU_ 3 81 21 15 ?_
            refine jK6_ 4 82 21 31 ?_
            refine jN_ 5 83 21 63 (fun K hK => ?_)
            refine gO_ Try.func146 #[.agg #[.int .i64 ((rd_T94 l1_1 x7_3).f0),.slice A285_1 ((rd_T94 l1_1 x7_3).f1).length c285_1,.bool ((rd_T94 l1_1 x7_3).f2)]] ?_
            with_reducible refine (spec_ChanOk.calls ((rd_T94 l1_1 x7_3).f0) _ _ ((rd_T94 l1_1 x7_3).f1) ((rd_T94 l1_1 x7_3).f2) false _ ?side1 ?side2 A54.out).mono ?_
            (case side1 => exact cS_ (Kd.C_below HR285_1.out HB.out))
            (case side2 => exact HC285_1.out)
            rintro e w69 ⟨rfl,hb⟩
            refine ⟨_,rfl,?_⟩
            replace BK277 := aM_ (nB_ BK277.out hb)
            replace BK278 := aM_ (nB_ BK278.out hb)
            replace HB := aM_ (sT_ HB.out hb)
            (try clear hb)
            (try clear hb2)
            (try clear hk)
            (try clear hi)
            refine kO_ hK (some 83) ⟨(blk_cell BK278.out 0).trans rfl,(blk_cell BK278.out 1).trans rfl,(blk_cell BK278.out 2).trans rfl,(cB_ HB.out hw285_0 :),(cB_ HB.out hw285_1 :),(cB_ HB.out hw285_2 :)⟩ (fun hHeld => ?_)
            clear hK K
            refine jU_ 6 84 21 127 ?_
            refine jU_ 7 85 21 255 ?_
            refine jX_ 8 86 21 511 ?_
            refine jX_ 9 87 21 1023 ?_
            refine jX_ 10 88 21 2047 ?_
            refine jX_ 11 89 21 4095 ?_
            refine jX_ 12 90 21 8191 ?_
            refine jX_ 13 91 21 16383 ?_
            refine jX_ 14 92 21 32767 ?_
            refine jX_ 15 93 21 65535 ?_
            refine jX_ 16 94 21 131071 ?_
            refine jX_ 17 95 21 262143 ?_
            refine jX_ 18 96 21 524287 ?_
            refine jX_ 19 97 21 1048575 ?_
            refine jU_ 20 98 21 2097151 ?_
            refine done_ (done_of HT_.out (by kernel_rfl)) ?_
            try go_wp2
            go_ret
            exact fI_ HB.out
          ·rw [if_neg c53] at H
           exact absurd H (by simp)
         ·rw [if_neg c52] at H
          have c52b0 : decide (x7_3 < (l1_1.length : Int)) = false := decide_eq_false c52
          clear c52
          have H' := aM_ H
          clear H
          have hnb70 := NB278_277.out
          have hnc70 := NB277_278.out
          have z_71 := bR3_ BK278.out
          go_wp2
          go_loopg [8] k3 (fun kq v8 w' => ∃ (x8_4 : Int),v8 = .int .i64 x8_4 ∧ Aside0 (spec_SourceOk.l2 kq x8_4 l1_0 l1_1 l1_2 = some r) ∧ Aside0 (kq ≤ k3) ∧ Aside0 (w'.heap[gb277]? = some (.cells #[(.slice A0_0 l0_0.length c0_0),(.slice A0_1 l0_1.length c0_1)] 44 (0,0))) ∧ Aside0 (w'.heap[gb278]? = some (.cells #[(.slice A1_0 l1_0.length c1_0),(.slice A1_1 l1_1.length c1_1),(.slice A1_2 l1_2.length c1_2)] 28 (0,0))) ∧ Aside0 (Below w.heap.size w w'))
          case atStart => exact ⟨(0),(by first | rfl | (simp;done) | (simp [*];done)),H',⟨Nat.le_refl _⟩,⟨rW_ BK277.out⟩,⟨rW_ BK278.out⟩,⟨gW_ HB.out⟩⟩
          case round =>
           clear H'
           (try clear c1);(try clear c2);(try clear p2);(try clear q2);(try clear hx2);(try clear c5);(try clear c6);(try clear p6);(try clear c7);(try clear c14);(try clear c28);(try clear p28);(try clear q28);(try clear hx28);(try clear c52);(try clear c52b0);(try clear c53);(try clear c55);(try clear c56);(try clear c57);(try clear c57b0);(try clear c57b1);(try clear c62);(try clear p64);(try clear c66);(try clear c70);(try clear z_63);(try clear z_67);(try clear z_71);(try clear hx285_0);(try clear hx285_1);(try clear hx285_2);(try clear hx287_0);(try clear hx287_1);(try clear hx287_2);(try clear hx288_0);(try clear p285);(try clear p287);(try clear p288);(try clear q285);(try clear q287);(try clear q288)
           obtain ⟨x8_4,rfl,HA,HK4,BK277,BK278,HB⟩ := hrel
           cases gk with
           | zero => exact absurd HA.out (by simp [spec_SourceOk.l2])
           | succ k4 =>
            have H := HA.out
            clear HA
            simp only [spec_SourceOk.l2] at H
            by_cases c72 : x8_4 < (l1_2.length : Int)
            ·rw [if_pos c72] at H
             have c72b0 : decide (x8_4 < (l1_2.length : Int)) = true := decide_eq_true c72
             clear c72
             by_cases c73 : 0 ≤ x8_4
             ·rw [if_pos c73] at H
              have c73b0 : decide (0 ≤ x8_4) = true := decide_eq_true c73
              clear c73
              replace H := Option.bind_eq_some_iff.mp H
              obtain ⟨t290,A740,H⟩ := H
              replace H : (if t290 = true then (spec_SourceOk.l2 k4 (wrap64 (x8_4 + 1)) l1_0 l1_1 l1_2) else (some false)) = some r := H
              have A74 := aM_ A740
              clear A740
              by_cases c75 : t290 = true
              ·subst c75
               have H1 : (spec_SourceOk.l2 k4 (wrap64 (x8_4 + 1)) l1_0 l1_1 l1_2) = some r := by rw [if_pos rfl] at H;exact H
               clear H
               have H := H1
               clear H1
               have H' := aM_ H
               clear H
               have hnb76 := NB278_277.out
               have hnc76 := NB277_278.out
               have z_77 := bR3_ BK278.out
               try go_wp2
               replace BK277 := aM_ (blk_drew BK277.out)
               replace BK278 := aM_ (blk_drew BK278.out)
               replace HB := aM_ (below_drew1 HB.out)
               have p289 : 0 ≤ (x8_4 : Int) := pD_
               have q289 : x8_4 < (l1_2.length : Int) := pD_
               obtain ⟨ad289,e289,hx289_0,hx289_1⟩ := at_T35 HR1_2.out x8_4 p289 q289
               have hw289_1 := hx289_1
               have hw289_0 := hx289_0
               cases e289
               replace hx289_0 := cB_ HB.out hx289_0
               replace hx289_1 := cB_ HB.out hx289_1
               replace p289 := eq_true p289
               replace q289 := eq_true q289
               refine sTa_ 12 (fun w' => K_ w' gb278 0 (.slice A1_0 l1_0.length c1_0) ∧ K_ w' gb278 1 (.slice A1_1 l1_1.length c1_1) ∧ K_ w' gb278 2 (.slice (some ad289) l1_2.length c1_2) ∧ w'.cell? (ad289.add ((x8_4).toNat * 2)) = some (.int .i64 ((rd_T35 l1_2 x8_4).f0)) ∧ w'.cell? ⟨(ad289.add ((x8_4).toNat * 2)).block,(ad289.add ((x8_4).toNat * 2)).off + 1,none⟩ = some (.int .i64 ((rd_T35 l1_2 x8_4).f1))) [] ⟨(blk_cell BK278.out 0).trans rfl,(blk_cell BK278.out 1).trans rfl,(blk_cell BK278.out 2).trans rfl,(cB_ HB.out hw289_0 :),(cB_ HB.out hw289_1 :)⟩ (fun hHeld => ?_);refine with_tabW spec_SourceOk.tab17 spec_SourceOk.bits17 (fun HT_ HW_ => ?_)
               generalize wr.drew = w78 at BK277 BK278 HB hx289_0 hx289_1 hHeld ⊢
               refine jU_ 0 106 12 1 ?_
               refine jU_ 2 108 12 5 ?_
               refine jU_ 6 112 12 69 ?_
               refine jK5_ 1 107 12 71 ?_
               refine jU_ 3 109 12 79 ?_
               refine jU_ 4 110 12 95 ?_
               refine jK5_ 5 111 12 127 ?_
               refine jK5_ 7 113 12 255 ?_
               refine jU_ 8 114 12 511 ?_
               refine jU_ 9 115 12 1023 ?_
               refine jN_ 10 116 12 2047 (fun K hK => ?_)
               refine gO_ Try.func111 #[.int .i64 ((rd_T35 l1_2 x8_4).f0),.int .i64 0,.int .i64 (wrap64 ((l1_0.length : Int) - 1))] ?_
               with_reducible refine (spec_l1In.calls ((rd_T35 l1_2 x8_4).f0) 0 (wrap64 ((l1_0.length : Int) - 1)) true _ A74.out).mono ?_
               rintro e w' ⟨rfl,⟨nd,rfl⟩⟩
               refine ⟨_,rfl,?_⟩
               refine kO_ hK (some 116) ⟨(blk_cell BK278.out 0).trans rfl,(blk_cell BK278.out 1).trans rfl,(blk_cell BK278.out 2).trans rfl,(cB_ HB.out hw289_0 :),(cB_ HB.out hw289_1 :)⟩ (fun hHeld => ?_)
               clear hK K
               refine jU_ 11 117 12 4095 ?_
               refine done_ (done_of HT_.out (by kernel_rfl)) ?_
               try go_wp2
               go_roundg k4
               case measure => have := HJ2.out;have := HK2.out;have := HK3.out;have := HK4.out;omega
               case rel => exact ⟨(wrap64 (x8_4 + 1)),(by first | rfl | (simp;done) | (simp [*];done)),H',⟨by have := HJ2.out;have := HK2.out;have := HK3.out;have := HK4.out;omega⟩,⟨rW_ BK277.out⟩,⟨rW_ BK278.out⟩,⟨gW_ HB.out⟩⟩
              ·replace c75 := Bool.eq_false_iff.mpr c75
               subst c75
               have H1 := hF_ H
               clear H
               have H := H1
               clear H1
               obtain rfl := sJ_ H
               have hnb79 := NB278_277.out
               have hnc79 := NB277_278.out
               have z_80 := bR3_ BK278.out
               try go_wp2
               replace BK277 := aM_ (blk_drew BK277.out)
               replace BK278 := aM_ (blk_drew BK278.out)
               replace HB := aM_ (below_drew1 HB.out)
               have p289 : 0 ≤ (x8_4 : Int) := pD_
               have q289 : x8_4 < (l1_2.length : Int) := pD_
               obtain ⟨ad289,e289,hx289_0,hx289_1⟩ := at_T35 HR1_2.out x8_4 p289 q289
               have hw289_1 := hx289_1
               have hw289_0 := hx289_0
               cases e289
               replace hx289_0 := cB_ HB.out hx289_0
               replace hx289_1 := cB_ HB.out hx289_1
               replace p289 := eq_true p289
               replace q289 := eq_true q289
               refine sTa_ 12 (fun w' => K_ w' gb278 0 (.slice A1_0 l1_0.length c1_0) ∧ K_ w' gb278 1 (.slice A1_1 l1_1.length c1_1) ∧ K_ w' gb278 2 (.slice (some ad289) l1_2.length c1_2) ∧ w'.cell? (ad289.add ((x8_4).toNat * 2)) = some (.int .i64 ((rd_T35 l1_2 x8_4).f0)) ∧ w'.cell? ⟨(ad289.add ((x8_4).toNat * 2)).block,(ad289.add ((x8_4).toNat * 2)).off + 1,none⟩ = some (.int .i64 ((rd_T35 l1_2 x8_4).f1))) [] ⟨(blk_cell BK278.out 0).trans rfl,(blk_cell BK278.out 1).trans rfl,(blk_cell BK278.out 2).trans rfl,(cB_ HB.out hw289_0 :),(cB_ HB.out hw289_1 :)⟩ (fun hHeld => ?_);refine with_tabW spec_SourceOk.tab17 spec_SourceOk.bits17 (fun HT_ HW_ => ?_)
               generalize wr.drew = w81 at BK277 BK278 HB hx289_0 hx289_1 hHeld ⊢
               refine jU_ 0 106 12 1 ?_
               refine jU_ 2 108 12 5 ?_
               refine jU_ 6 112 12 69 ?_
               refine jK5_ 1 107 12 71 ?_
               refine jU_ 3 109 12 79 ?_
               refine jU_ 4 110 12 95 ?_
               refine jK5_ 5 111 12 127 ?_
               refine jK5_ 7 113 12 255 ?_
               refine jU_ 8 114 12 511 ?_
               refine jU_ 9 115 12 1023 ?_
               refine jN_ 10 116 12 2047 (fun K hK => ?_)
               refine gO_ Try.func111 #[.int .i64 ((rd_T35 l1_2 x8_4).f0),.int .i64 0,.int .i64 (wrap64 ((l1_0.length : Int) - 1))] ?_
               with_reducible refine (spec_l1In.calls ((rd_T35 l1_2 x8_4).f0) 0 (wrap64 ((l1_0.length : Int) - 1)) false _ A74.out).mono ?_
               rintro e w' ⟨rfl,⟨nd,rfl⟩⟩
               refine ⟨_,rfl,?_⟩
               refine kO_ hK (some 116) ⟨(blk_cell BK278.out 0).trans rfl,(blk_cell BK278.out 1).trans rfl,(blk_cell BK278.out 2).trans rfl,(cB_ HB.out hw289_0 :),(cB_ HB.out hw289_1 :)⟩ (fun hHeld => ?_)
               clear hK K
               refine jU_ 11 117 12 4095 ?_
               refine done_ (done_of HT_.out (by kernel_rfl)) ?_
               try go_wp2
               go_ret
               exact fI_ HB.out
             ·rw [if_neg c73] at H
              exact absurd H (by simp)
            ·rw [if_neg c72] at H
             have c72b0 : decide (x8_4 < (l1_2.length : Int)) = false := decide_eq_false c72
             clear c72
             obtain rfl := sJ_ H
             have hnb82 := NB278_277.out
             have hnc82 := NB277_278.out
             have z_83 := bR3_ BK278.out
             go_wp2
             go_ret
             exact fI_ HB.out
def spec_l3Copy.f (a0_0 : Int) (l0_1 : List Int) (a0_2 : Bool) : Option (Int × List Int × Bool) := (some (([] : List Int) : List Int)).bind fun y293 => (if y293.length + l0_1.length < 17592186044416 then (some (a0_0,(y293 ++ l0_1),a0_2)) else (none))
def spec_l3Copy.T1 : Bool × List (List Nat × List Nat) := (true,[([],[]),([0],[0]),([],[]),([],[]),([3],[3]),([2,4],[2,4]),([],[]),([6],[6]),([1,5,7],[1,5,7]),([8,5,0,1,2,3,4,5,6,7,8],[8])])
def spec_l3Copy.B1 : List Nat := [0,1,0,0,8,28,0,64,255,511]
theorem spec_l3Copy.tab1 : rtab .any (opsOf Try.f171 1) = spec_l3Copy.T1 := by kernel_rfl
theorem spec_l3Copy.bits1 : waitsOk spec_l3Copy.T1.2 spec_l3Copy.B1 = true := by kernel_rfl
set_option maxHeartbeats 8000000 in
theorem spec_l3Copy.calls (a0_0 : Int) (A0_1 : Option Addr) (c0_1 : Nat) (l0_1 : List Int) (a0_2 : Bool) (r1 : Int) (r2 : List Int) (r3 : Bool) (w : World) (hr0_1 : Kd.C (Kd.int .i64) w A0_1 l0_1.length l0_1) (hc0_1 : l0_1.length ≤ c0_1) (h : spec_l3Copy.f a0_0 l0_1 a0_2 = some (r1,r2,r3)) :
  Calls Try.prog 171 #[.agg #[.int .i64 a0_0,.slice A0_1 l0_1.length c0_1,.bool a0_2]] w fun e w' => ∃ v1_ : Value,e = .returned (.agg #[.int .i64 r1,v1_,.bool r3]) ∧ Kd.R (Kd.int .i64) 3 w' w.heap.size (fun _ => True) v1_ r2 ∧ Below w.heap.size w w' := by
 have hu94 := Try.underlying94
 have HR0_1 := aM_ hr0_1
 have HC0_1 := aM_ hc0_1
 clear hr0_1 hc0_1
 have HB := aM_ (Below.refl w.heap.size w)
 have H : ((some (([] : List Int) : List Int)).bind fun y293 => (if y293.length + l0_1.length < 17592186044416 then (some (a0_0,(y293 ++ l0_1),a0_2)) else (none))) = some (r1,r2,r3) := h
 clear h
 obtain ⟨y293,hy293⟩ : ∃ y_ : List Int,y_ = (([] : List Int)) := ⟨_,rfl⟩
 replace H : (if y293.length + l0_1.length < 17592186044416 then (some (a0_0,(y293 ++ l0_1),a0_2)) else (none)) = some (r1,r2,r3) := by first | (rw [hy293];with_reducible exact H) | (have H2_ := (Option.bind_some _ _).symm.trans H;rw [hy293];with_reducible exact H2_) | (have H2_ := (Option.bind_some _ _).symm.trans H;with_reducible exact H2_) | with_reducible exact H | (rw [hy293];exact H) | exact H
 have Ny293 := aM_ hy293
 clear hy293
 by_cases c2 : y293.length + l0_1.length < 17592186044416
 ·rw [if_pos c2] at H
  have LMc2 := aM_ c2
  clear c2
  obtain ⟨y296,hy296⟩ : ∃ y_ : List Int,y_ = (y293 ++ l0_1) := ⟨_,rfl⟩
  replace H : (some (a0_0,y296,a0_2)) = some (r1,r2,r3) := by first | (rw [hy296];with_reducible exact H) | (have H2_ := (Option.bind_some _ _).symm.trans H;rw [hy296];with_reducible exact H2_) | (have H2_ := (Option.bind_some _ _).symm.trans H;with_reducible exact H2_) | with_reducible exact H | (rw [hy296];exact H) | exact H
  have Ny296 := aM_ hy296
  clear hy296
  simp only [Option.some.injEq,Prod.mk.injEq] at H
  obtain ⟨rfl,rfl,rfl⟩ := H
  go_enter Try.func171,Try.ntmps171
  try go_wp2_with (first | (refine bX_ 1 (cs := #[.int .i64 a0_0,.slice A0_1 l0_1.length c0_1,.bool a0_2]) (t := 94) ?_;intro gb291 hg w3 hbox hb;have BK291 := aM_ (hbox);have GE291 := aM_ (sZ_ hg HB.out);replace HB := aM_ (sT_ HB.out hb);clear hb hbox hg) | (refine bX_ 2 (cs := #[.int .i64 0,.slice none 0 0,.bool false]) (t := 94) ?_;intro gb292 hg w4 hbox hb;have BK292 := aM_ (hbox);have GE292 := aM_ (sZ_ hg HB.out);have NB291_292 := aM_ (nL_ hg BK291.out);have NB292_291 := aM_ (nG_ hg BK291.out);replace BK291 := aM_ (nB_ BK291.out hb);replace HB := aM_ (sT_ HB.out hb);clear hb hbox hg))
  replace BK291 := aM_ (blk_drew BK291.out)
  replace BK292 := aM_ (blk_drew BK292.out)
  replace HB := aM_ (below_drew1 HB.out)
  refine sTa_ 10 (fun w' => K_ w' gb291 0 (.int .i64 a0_0) ∧ K_ w' gb291 1 (.slice A0_1 l0_1.length c0_1) ∧ K_ w' gb291 2 (.bool a0_2)) [] (bC3_ BK291.out) (fun hHeld => ?_);refine with_tabW spec_l3Copy.tab1 spec_l3Copy.bits1 (fun HT_ HW_ => ?_)
  generalize w4.drew = w5 at BK291 BK292 HB hHeld ⊢
  refine jU_ 0 3 10 1 ?_
  refine jU_ 3 6 10 9 ?_
  refine jU_ 6 9 10 73 ?_
  refine jK3_ 1 4 10 75 ?_
  refine jK3_ 4 7 10 91 ?_
  refine jK3_ 7 10 10 219 ?_
  refine jN_ 2 5 10 223 (fun K hK => ?_)
  refine Kd.R_lit_step (Kd.int .i64) _ 3 ?hg (N := 5) ?hd (xs := ([] : List Int)) (inner := []) (ok := fun _ => True) (okp := fun _ => True) ?hr ?hp (fun _ hk => hk) trivial (Below.refl _ _) (Nat.le_refl _) (by simp) ?_;(case hd => rfl);(case hg => rfl);(case hr => first | (go_simp;done) | (go_simp;rfl));(case hp => exact (Reps.none _ _))
  intro v294 w6 ho7 hb hg_ hnew_
  clear hg_ hnew_
  (first | rw [← Ny293.out] at ho7 | (simp only [Int.reduceToNat] at ho7;rw [← Ny293.out] at ho7))
  have HO295 := aM_ (Kd.R_lower ho7 (below_size (gB_ HB.out)))
  replace BK291 := aM_ (nB_ BK291.out hb)
  replace BK292 := aM_ (nB_ BK292.out hb)
  replace HB := aM_ (sT_ HB.out hb)
  clear hb ho7
  refine kO_ hK (some 5) (bC3_ BK291.out) (fun hHeld => ?_)
  clear hK K
  refine jN_ 5 8 10 255 (fun K hK => ?_)
  refine Kd.R_append_rows_step (Kd.int .i64) (w0 := w) w.heap.size (by rfl) (.tmp 5) (.tmp 7) 31 3 (.int .i64 0) 8 rfl Try.underlying31 info3 rfl (by decide) (by omega) v294 y293 l0_1 _ _ _ (fun _ => True) (fun _ => False) rfl rfl ?aO ?aR (fun _ _ h => h) (fun _ h => h.elim) ?aF ?aB ?aS ?aL ?_
  (case aR => repeat (first | exact (Kd.C_below HR0_1.out HB.out) | (with_reducible refine Kd.C_alloc ?_ _) | (with_reducible refine Kd.C_drewN ?_ _) | (with_reducible refine Kd.C_drew ?_)))
  (case aB => exact (gB_ HB.out))
  (case aF => exact (fun _ _ => trivial))
  (case aO => exact (by (with_reducible repeat (first | apply rA_ | apply rN_ | apply rD_));exact HO295.out))
  (case aS => exact (below_size (gB_ HB.out)))
  (case aL => have := LMc2.out;omega)
  intro v297 w8 ho hb hg hat
  rw [← Ny296.out] at ho
  have HO298 := aM_ (ho)
  replace BK291 := aM_ (blk_grown (g := gb291) (o := .cells #[.int .i64 a0_0,.slice A0_1 l0_1.length c0_1,.bool a0_2] 94 (0,0)) (by (with_reducible repeat (first | refine bN_ ?_ _ | refine bD_ ?_ | refine bA_ ?_ _));exact BK291.out) hg (Kd.R_ne HO295.out BK291.out (by decide)))
  replace BK292 := aM_ (blk_grown (g := gb292) (o := .cells #[.int .i64 0,.slice none 0 0,.bool false] 94 (0,0)) (by (with_reducible repeat (first | refine bN_ ?_ _ | refine bD_ ?_ | refine bA_ ?_ _));exact BK292.out) hg (Kd.R_ne HO295.out BK292.out (by decide)))
  replace HB := aM_ (hb)
  clear HO295
  clear ho hb hg hat
  obtain ⟨Ao9,co9,eo9⟩ := Kd.R_slice HO298.out
  (first | subst eo9 | (injection eo9 with f1_ f2_ f3_;have f4_ := f1_.symm;have f5_ := f3_.symm;clear f1_ f2_ f3_;subst f4_;subst f5_))
  refine kO_ hK (some 8) (bC3_ BK291.out) (fun hHeld => ?_)
  clear hK K
  refine jU_ 8 11 10 511 ?_
  refine oNn_ 9 (none) (mk_ 10 1023) (fun K hK => ?_)
  have hs10 : w8.cell? ⟨gb292,0,none⟩ = some (.int .i64 0) := (blk_cell BK292.out 0).trans rfl
  have hfs10 := blk_frozen BK292.out 0
  have hns10_0 := NB291_292.out
  have hms10_0 := NB292_291.out
  have hs11 : w8.cell? ⟨gb292,1,none⟩ = some (.slice none 0 0) := (blk_cell BK292.out 1).trans rfl
  have hfs11 := blk_frozen BK292.out 1
  have hns11_0 := NB291_292.out
  have hms11_0 := NB292_291.out
  have hs12 : w8.cell? ⟨gb292,2,none⟩ = some (.bool false) := (blk_cell BK292.out 2).trans rfl
  have hfs12 := blk_frozen BK292.out 2
  have hns12_0 := NB291_292.out
  have hms12_0 := NB292_291.out
  refine skip_ (w1 := ?_) (by rfl) rfl ?_ ?_
  rotate_left
  ·go_simp
   rfl
  refine hK.out _ _ ⟨((cell_far (p := ⟨gb292,_,none⟩) NB291_292.out _).trans (((cell_far (p := ⟨gb292,_,none⟩) NB291_292.out _).trans ((cf_ NB291_292.out hHeld.1))))),((cell_far (p := ⟨gb292,_,none⟩) NB291_292.out _).trans (((cell_far (p := ⟨gb292,_,none⟩) NB291_292.out _).trans ((cf_ NB291_292.out hHeld.2.1))))),((cell_far (p := ⟨gb292,_,none⟩) NB291_292.out _).trans (((cell_far (p := ⟨gb292,_,none⟩) NB291_292.out _).trans ((cf_ NB291_292.out hHeld.2.2)))))⟩ (fun hHeld => ?_)
  clear hK K
  refine done_ (done_of HT_.out (by kernel_rfl)) ?_
  try go_wp2
  refine bodyPost_ret (results_cell_row rfl _ _ gb292 94 #[.int .i64 a0_0,.slice Ao9 y296.length co9,.bool a0_2] (0,0) _ rfl (by (with_reducible repeat (first | refine bN_ ?_ _ | refine bD_ ?_ | refine bA_ ?_ _));refine blk_put (cs := #[.int .i64 a0_0,.slice Ao9 y296.length co9,.bool false]) ?_ 2 _ rfl;refine blk_put (cs := #[.int .i64 a0_0,.slice none 0 0,.bool false]) ?_ 1 _ rfl;refine blk_put (cs := #[.int .i64 0,.slice none 0 0,.bool false]) ?_ 0 _ rfl;exact rW_ BK292.out) Try.underlying94 rfl (by kernel_rfl)) rfl ?_
  exact ⟨_,fR_,by (with_reducible repeat (first | apply rA_ | apply rN_ | apply rD_));exact Kd.R_mono (RF3_ gb292 (Kd.R_types HO298.out BK292.out (by decide)) (fun _ hk => hk.2) (.int .i64 a0_0) (.slice Ao9 y296.length co9) (.bool a0_2)) (fun _ hk => trivial),gB_ HB.out⟩
 ·rw [if_neg c2] at H
  exact absurd H (by simp)
mutual
def spec_l4Copy.l0 : Nat → Int → List (S107) → List (S94) → List (S35) → List (S107) → List (S35) → Option ((List (S107)) × (List (S94)) × (List (S35)))
  | 0,_,_,_,_,_,_ => none
  | k + 1,x4,x300000,x300001,x300002,x308000,x308002 => if x4 < (x300000.length : Int) then (if 0 ≤ x4 then ((some (([] : List Int) : List Int)).bind fun y310 => (if y310.length + ((rd_T107 x300000 x4).f1).length < 17592186044416 then (if x308000.length < 3518437208883 then (spec_l4Copy.l0 k (wrap64 (x4 + 1)) x300000 x300001 x300002 (x308000 ++ [(⟨(rd_T107 x300000 x4).f0,(y310 ++ ((rd_T107 x300000 x4).f1)),(rd_T107 x300000 x4).f2⟩ : S107)]) x308002) else (none)) else (none))) else (none)) else (spec_l4Copy.l1 k 0 x300000 x300001 x300002 x308000 ([] : List (S94)) x308002)
def spec_l4Copy.l1 : Nat → Int → List (S107) → List (S94) → List (S35) → List (S107) → List (S94) → List (S35) → Option ((List (S107)) × (List (S94)) × (List (S35)))
  | 0,_,_,_,_,_,_,_ => none
  | k + 1,x6,x300000,x300001,x300002,x308000,x308001,x308002 => if x6 < (x300001.length : Int) then (if 0 ≤ x6 then ((spec_l3Copy.f ((rd_T94 x300001 x6).f0) ((rd_T94 x300001 x6).f1) ((rd_T94 x300001 x6).f2)).bind fun bt320 => (if x308001.length < 3518437208883 then (spec_l4Copy.l1 k (wrap64 (x6 + 1)) x300000 x300001 x300002 x308000 (x308001 ++ [(⟨bt320.1,bt320.2.1,bt320.2.2⟩ : S94)]) x308002) else (none))) else (none)) else (some (x308000,x308001,x308002))
end
def spec_l4Copy.f (k : Nat) (l0_0 : List (S107)) (l0_1 : List (S94)) (l0_2 : List (S35)) : Option ((List (S107)) × (List (S94)) × (List (S35))) := (some (([] : List (S35)) : List (S35))).bind fun y301 => (if y301.length + l0_2.length < 8796093022208 then (spec_l4Copy.l0 k 0 l0_0 l0_1 l0_2 ([] : List (S107)) (y301 ++ l0_2)) else (none))
def spec_l4Copy.T11 : Bool × List (List Nat × List Nat) := (true,[([],[]),([0],[0]),([],[]),([2],[2]),([],[]),([3,4],[3,4]),([5],[5]),([6],[6]),([7],[7]),([1,8,7],[1,8]),([0,1,2,3,4,5,6,7,8,9],[]),([10,9,9,0,1,2,3,4,5,6,7,8,9],[9,10])])
def spec_l4Copy.B11 : List Nat := [0,1,0,4,0,28,60,124,252,511,1023,2047]
theorem spec_l4Copy.tab11 : rtab .any (opsOf Try.f150 11) = spec_l4Copy.T11 := by kernel_rfl
theorem spec_l4Copy.bits11 : waitsOk spec_l4Copy.T11.2 spec_l4Copy.B11 = true := by kernel_rfl
def spec_l4Bit.f (a0 : Bool) : Option (Int) := if a0 = true then (some 1) else (some 0)
set_option maxHeartbeats 8000000 in
theorem spec_l4Bit.calls (a0 : Bool) (r : Int) (w : World) (h : spec_l4Bit.f a0 = some r) :
  Calls Try.prog 172 #[.bool a0] w fun e w' => e = .returned (.int .i64 r) ∧ Drawn0 w w' := by
 have H : (if a0 = true then (some 1) else (some 0)) = some r := h
 clear h
 by_cases c2 : a0 = true
 ·subst c2
  have H1 : (some 1) = some r := by rw [if_pos rfl] at H;exact H
  clear H
  have H := H1
  clear H1
  obtain rfl := sJ_ H
  go_enter Try.func172,Try.ntmps172
  go_wp2
  go_ret
  exact ⟨by first | rfl | (simp;done) | (simp [*];done),by repeat (first | exact Drawn0.refl _ | apply Drawn0.step)⟩
 ·replace c2 := Bool.eq_false_iff.mpr c2
  subst c2
  have H1 : (some 0) = some r := by rw [if_neg (show ¬ (false = true) by decide)] at H;exact H
  clear H
  have H := H1
  clear H1
  obtain rfl := sJ_ H
  go_enter Try.func172,Try.ntmps172
  go_wp2
  go_ret
  exact ⟨by first | rfl | (simp;done) | (simp [*];done),by repeat (first | exact Drawn0.refl _ | apply Drawn0.step)⟩
end Go.Proofs.Ytobachfngmpeiaa.PFnExactAble
