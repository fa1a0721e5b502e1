/- A part of the proof that the law FnExactSourceOk holds for every input: the words, functions and walks that its row needs, without a condition of their own. -/
import Derived.Test.YtfaoipojijhlbaaZFnExactSourceOka2
import Derived.Test.YtfaoipojijhlbaaZFnExactSourceOka4
import Derived.Test.YtfaoipojijhlbaaZFnExactSourceOks
namespace Go.Proofs.Ytfaoipojijhlbaa.PFnExactSourceOk
open Go.RowKit Go.Proofs.YtfaoipojijhlbaaW.PrintWords Go.Proofs.YtfaoipojijhlbaaW.PrintLast Go.Proofs.YtfaoipojijhlbaaW.PrintMore
attribute [local go_sem] max2_int min2_int max_two min_two max_three min_three max_four min_four   -- for this text's walks alone
set_option linter.unusedVariables false
set_option linter.unusedSimpArgs false
mutual
def spec_SourceOk.j0 : Nat → Bool → List Int → List (List (S155)) → List (S86) → List (S91) → List (S93) → Option (Bool)
  | 0, _, _, _, _, _, _ => none
  | k + 1, x35, x140000, x140001, x141000, x141001, x141002 => if x35 = true then (some false) else (spec_SourceOk.l0 k 0 x140000 x140001 x141000 x141001 x141002)
def spec_SourceOk.l0 : Nat → Int → List Int → List (List (S155)) → List (S86) → List (S91) → List (S93) → Option (Bool)
  | 0, _, _, _, _, _, _ => none
  | k + 1, x5, x140000, x140001, x141000, x141001, x141002 => if x5 < (x141000.length : Int) then (if 0 ≤ x5 then (if (((rd_T86 x141000 x5).f1).length : Int) = 4 then ((spec_l1In.f ((rd_T86 x141000 x5).f2) 0 2).bind fun t144 => (if t144 = true then (if x5 < (x140001.length : Int) then ((spec_l1In.f ((rd_T86 x141000 x5).f0) 0 (wrap64 (((rd_L9 x140001 x5).length : Int) - 1))).bind fun t146 => (spec_SourceOk.j2 k x5 (!t146) x140000 x140001 x141000 x141001 x141002)) else (none)) else (spec_SourceOk.j2 k x5 true x140000 x140001 x141000 x141001 x141002))) else (spec_SourceOk.j2 k x5 true x140000 x140001 x141000 x141001 x141002)) else (none)) else (spec_SourceOk.l1 k 0 x140000 x140001 x141000 x141001 x141002)
def spec_SourceOk.j2 : Nat → Int → Bool → List Int → List (List (S155)) → List (S86) → List (S91) → List (S93) → Option (Bool)
  | 0, _, _, _, _, _, _, _ => none
  | k + 1, x5, x70, x140000, x140001, x141000, x141001, x141002 => if x70 = true then (some false) else (spec_SourceOk.l0 k (wrap64 (x5 + 1)) x140000 x140001 x141000 x141001 x141002)
def spec_SourceOk.l1 : Nat → Int → List Int → List (List (S155)) → List (S86) → List (S91) → List (S93) → Option (Bool)
  | 0, _, _, _, _, _, _ => none
  | k + 1, x7, x140000, x140001, x141000, x141001, x141002 => if x7 < (x141001.length : Int) then (if 0 ≤ x7 then ((spec_ChanOk.f ((rd_T91 x141001 x7).f0) ((rd_T91 x141001 x7).f1) ((rd_T91 x141001 x7).f2)).bind fun t148 => (if t148 = true then (if x7 < (x140000.length : Int) then (if ((rd_T91 x141001 x7).f0) = (rd x140000 x7) then (spec_SourceOk.l1 k (wrap64 (x7 + 1)) x140000 x140001 x141000 x141001 x141002) else (some false)) else (none)) else (some false))) else (none)) else (spec_SourceOk.l2 k 0 x141000 x141001 x141002)
def spec_SourceOk.l2 : Nat → Int → List (S86) → List (S91) → List (S93) → Option (Bool)
  | 0, _, _, _, _ => none
  | k + 1, x8, x141000, x141001, x141002 => if x8 < (x141002.length : Int) then (if 0 ≤ x8 then ((spec_l1In.f ((rd_T93 x141002 x8).f0) 0 (wrap64 ((x141000.length : Int) - 1))).bind fun t152 => (if t152 = true then (spec_SourceOk.l2 k (wrap64 (x8 + 1)) x141000 x141001 x141002) else (some false))) else (none)) else (some true)
end
def spec_SourceOk.f (k : Nat) (l0_0 : List Int) (l0_1 : List (List (S155))) (l1_0 : List (S86)) (l1_1 : List (S91)) (l1_2 : List (S93)) : Option (Bool) := (spec_ProgOk.f k l0_0 l0_1).bind fun t141 => (if t141 = true then (if (l1_0.length : Int) = (l0_1.length : Int) then (if (l1_1.length : Int) = (l0_0.length : Int) then (spec_SourceOk.j0 k (decide ((l1_2.length : Int) > 4000)) l0_0 l0_1 l1_0 l1_1 l1_2) else (spec_SourceOk.j0 k true l0_0 l0_1 l1_0 l1_1 l1_2)) else (spec_SourceOk.j0 k true l0_0 l0_1 l1_0 l1_1 l1_2)) else (spec_SourceOk.j0 k true l0_0 l0_1 l1_0 l1_1 l1_2))
def spec_SourceOk.T7 : Bool × List (List Nat × List Nat) := (true, [([], []), ([0], [0]), ([1], [1]), ([2], [2]), ([3], [3]), ([4], [4]), ([5, 4], [4, 5]), ([6, 4, 4], [4, 6]), ([7, 4], [4, 7]), ([4, 8], [4, 8]), ([9, 7], [9]), ([10], [10]), ([11, 10], [10, 11]), ([10], [10]), ([13, 10], [10, 13]), ([10], [10]), ([14, 15, 10], [10, 14, 15]), ([16, 10], [10, 16]), ([17, 10], [10, 17]), ([18, 10], [10, 18]), ([12, 19, 10, 10], [10, 12, 19]), ([20, 10], [10, 20]), ([10, 21], [10, 21])])
def spec_SourceOk.B7 : List Nat := [0, 1, 3, 7, 15, 31, 63, 127, 255, 511, 1023, 2047, 4095, 2047, 10239, 2047, 59391, 124927, 255999, 518143, 1048575, 2097151, 4194303]
theorem spec_SourceOk.tab7 : rtab .any (opsOf Try.f15 7) = spec_SourceOk.T7 := by kernel_rfl
theorem spec_SourceOk.bits7 : waitsOk spec_SourceOk.T7.2 spec_SourceOk.B7 = true := by kernel_rfl
def spec_SourceOk.T12 : Bool × List (List Nat × List Nat) := (true, [([], []), ([0], [0]), ([], []), ([1, 2], [1, 2]), ([3], [3]), ([4], [4]), ([5], [5]), ([6, 5], [6]), ([7], [7]), ([8, 7], [7, 8]), ([7], [7]), ([9, 10, 7], [7, 9, 10]), ([11, 7], [7, 11]), ([12, 7], [7, 12]), ([7], [7]), ([14, 7], [7, 14]), ([7], [7]), ([15, 16, 7], [7, 15, 16]), ([17, 7], [7, 17]), ([13, 18, 7], [7, 13, 18]), ([7, 19], [7, 19])])
def spec_SourceOk.B12 : List Nat := [0, 1, 0, 7, 15, 31, 63, 127, 255, 511, 255, 2047, 4095, 8191, 255, 16639, 255, 114943, 246015, 524287, 1048575]
theorem spec_SourceOk.tab12 : rtab .any (opsOf Try.f15 12) = spec_SourceOk.T12 := by kernel_rfl
theorem spec_SourceOk.bits12 : waitsOk spec_SourceOk.T12.2 spec_SourceOk.B12 = true := by kernel_rfl
def spec_SourceOk.T17 : Bool × List (List Nat × List Nat) := (true, [([], []), ([0], [0]), ([], []), ([1, 2], [1, 2]), ([3], [3]), ([4], [4]), ([], []), ([6], [6]), ([7], [7]), ([8], [8]), ([5, 9], [5, 9]), ([10], [10])])
def spec_SourceOk.B17 : List Nat := [0, 1, 0, 7, 15, 31, 0, 64, 192, 448, 1023, 2047]
theorem spec_SourceOk.tab17 : rtab .any (opsOf Try.f15 17) = spec_SourceOk.T17 := by kernel_rfl
theorem spec_SourceOk.bits17 : waitsOk spec_SourceOk.T17.2 spec_SourceOk.B17 = true := by kernel_rfl
set_option maxHeartbeats 8000000 in
set_option maxRecDepth 100000 in
theorem spec_SourceOk.calls (k : Nat) (A0_0 : Option Addr) (c0_0 : Nat) (l0_0 : List Int) (A0_1 : Option Addr) (c0_1 : Nat) (l0_1 : List (List (S155))) (A1_0 : Option Addr) (c1_0 : Nat) (l1_0 : List (S86)) (A1_1 : Option Addr) (c1_1 : Nat) (l1_1 : List (S91)) (A1_2 : Option Addr) (c1_2 : Nat) (l1_2 : List (S93)) (r : Bool) (w : World) (hr0_0 : Kd.C (Kd.int .i64) w A0_0 l0_0.length l0_0) (hc0_0 : l0_0.length ≤ c0_0) (hr0_1 : Kd.C (Kd.slice 155 k155) w A0_1 l0_1.length l0_1) (hc0_1 : l0_1.length ≤ c0_1) (hr1_0 : Kd.C k86 w A1_0 l1_0.length l1_0) (hc1_0 : l1_0.length ≤ c1_0) (hr1_1 : Kd.C k91 w A1_1 l1_1.length l1_1) (hc1_1 : l1_1.length ≤ c1_1) (hr1_2 : Kd.C k93 w A1_2 l1_2.length l1_2) (hc1_2 : l1_2.length ≤ c1_2) (h : spec_SourceOk.f k l0_0 l0_1 l1_0 l1_1 l1_2 = some r) :
  Calls Try.prog 15 #[.agg #[.slice A0_0 l0_0.length c0_0, .slice A0_1 l0_1.length c0_1], .agg #[.slice A1_0 l1_0.length c1_0, .slice A1_1 l1_1.length c1_1, .slice A1_2 l1_2.length c1_2]] w fun e w' => e = .returned (.bool r) ∧ Below w.heap.size w w' := by
 have hu49 := Try.underlying49
 have hu55 := Try.underlying55
 have hu86 := Try.underlying86
 have hu91 := Try.underlying91
 have HR0_0 := aM_ hr0_0
 have HC0_0 := aM_ hc0_0
 clear hr0_0 hc0_0
 have HR0_1 := aM_ hr0_1
 have HC0_1 := aM_ hc0_1
 clear hr0_1 hc0_1
 have HR1_0 := aM_ hr1_0
 have HC1_0 := aM_ hc1_0
 clear hr1_0 hc1_0
 have HR1_1 := aM_ hr1_1
 have HC1_1 := aM_ hc1_1
 clear hr1_1 hc1_1
 have HR1_2 := aM_ hr1_2
 have HC1_2 := aM_ hc1_2
 clear hr1_2 hc1_2
 have HB := aM_ (Below.refl w.heap.size w)
 have H : ((spec_ProgOk.f k l0_0 l0_1).bind fun t141 => (if t141 = true then (if (l1_0.length : Int) = (l0_1.length : Int) then (if (l1_1.length : Int) = (l0_0.length : Int) then (spec_SourceOk.j0 k (decide ((l1_2.length : Int) > 4000)) l0_0 l0_1 l1_0 l1_1 l1_2) else (spec_SourceOk.j0 k true l0_0 l0_1 l1_0 l1_1 l1_2)) else (spec_SourceOk.j0 k true l0_0 l0_1 l1_0 l1_1 l1_2)) else (spec_SourceOk.j0 k true l0_0 l0_1 l1_0 l1_1 l1_2))) = some r := h
 clear h
 have HC3 := aM_ H
 clear H
 go_enter Try.func15, Try.ntmps15
 go_upto_region 1 with (first | ((with_reducible refine gate_dst (N := 2) rfl ?_); (try (refine gate_guard (by rfl) ?_; dsimp only)); refine bX_ 2 (cs := #[.slice A0_0 l0_0.length c0_0, .slice A0_1 l0_1.length c0_1]) (t := 49) ?_; intro gb139 hg w4 hbox hb; have n0 := aM_ (sT_ HB.out hb); have n1 := aM_ (hbox); have n2 := aM_ (sZ_ hg HB.out); have n3 := aM_ (sZ_ hg HB.out); clear HB; have HB := n0; have BK139 := n1; have GW139 := n2; have GE139 := n3; clear n0 n1 n2 n3; clear hb hbox hg) | ((with_reducible refine gate_dst (N := 3) rfl ?_); (try (refine gate_guard (by rfl) ?_; dsimp only)); refine bX_ 3 (cs := #[.slice A1_0 l1_0.length c1_0, .slice A1_1 l1_1.length c1_1, .slice A1_2 l1_2.length c1_2]) (t := 55) ?_; intro gb140 hg w5 hbox hb; have n0 := aM_ (nB_ BK139.out hb); have n1 := aM_ (sT_ HB.out hb); have n2 := aM_ (hbox); have n3 := aM_ (sZ_ hg HB.out); have n4 := aM_ (sZ_ hg HB.out); have n5 := aM_ (nL_ hg BK139.out); have n6 := aM_ (nG_ hg BK139.out); clear BK139; clear HB; have BK139 := n0; have HB := n1; have BK140 := n2; have GW140 := n3; have GE140 := n4; have NB139_140 := n5; have NB140_139 := n6; clear n0 n1 n2 n3 n4 n5 n6; clear hb hbox hg))
 (try simp only [Act.put, List.setIfInBounds_toArray, List.set_cons_zero, List.set_cons_succ])
 go_cut [35] (fun v35 wc => ∃ (kq : Nat) (x35_2 : Bool), v35 = .bool x35_2 ∧ Aside0 (spec_SourceOk.j0 kq x35_2 l0_0 l0_1 l1_0 l1_1 l1_2 = some r) ∧ Aside0 (kq ≤ k) ∧ Aside0 (wc.heap[gb139]? = some (.cells #[(.slice A0_0 l0_0.length c0_0), (.slice A0_1 l0_1.length c0_1)] 49 (0, 0))) ∧ Aside0 (wc.heap[gb140]? = some (.cells #[(.slice A1_0 l1_0.length c1_0), (.slice A1_1 l1_1.length c1_1), (.slice A1_2 l1_2.length c1_2)] 55 (0, 0))) ∧ Aside0 (Below w.heap.size w wc))
 case first =>
  have H := HC3.out
  clear HC3
  replace H := Option.bind_eq_some_iff.mp H
  obtain ⟨t141, A60, H⟩ := H
  replace H : (if t141 = true then (if (l1_0.length : Int) = (l0_1.length : Int) then (if (l1_1.length : Int) = (l0_0.length : Int) then (spec_SourceOk.j0 k (decide ((l1_2.length : Int) > 4000)) l0_0 l0_1 l1_0 l1_1 l1_2) else (spec_SourceOk.j0 k true l0_0 l0_1 l1_0 l1_1 l1_2)) else (spec_SourceOk.j0 k true l0_0 l0_1 l1_0 l1_1 l1_2)) else (spec_SourceOk.j0 k true l0_0 l0_1 l1_0 l1_1 l1_2)) = some r := H
  have A6 := aM_ A60
  clear A60
  by_cases c7 : t141 = true
  ·subst c7
   have H1 : (if (l1_0.length : Int) = (l0_1.length : Int) then (if (l1_1.length : Int) = (l0_0.length : Int) then (spec_SourceOk.j0 k (decide ((l1_2.length : Int) > 4000)) l0_0 l0_1 l1_0 l1_1 l1_2) else (spec_SourceOk.j0 k true l0_0 l0_1 l1_0 l1_1 l1_2)) else (spec_SourceOk.j0 k true l0_0 l0_1 l1_0 l1_1 l1_2)) = some r := by rw [if_pos rfl] at H; exact H
   clear H
   have H := H1
   clear H1
   by_cases c8 : (l1_0.length : Int) = (l0_1.length : Int)
   ·rw [if_pos c8] at H
    have c8b0 : ((l1_0.length : Int) == (l0_1.length : Int)) = true := beq_iff_eq.mpr c8
    have c8b1 : ((l1_0.length : Int) != (l0_1.length : Int)) = false := bne_eq_false_iff_eq.mpr c8
    have c8b2 : (l1_0.length == l0_1.length) = true := by first | simpa using c8 | (simp at c8 ⊢; omega)
    clear c8
    (first | rw [c8b0] | (simp only [i64_w, i32_w]; rw [c8b0]) | skip)
    by_cases c9 : (l1_1.length : Int) = (l0_0.length : Int)
    ·rw [if_pos c9] at H
     have c9b0 : ((l1_1.length : Int) == (l0_0.length : Int)) = true := beq_iff_eq.mpr c9
     have c9b1 : ((l1_1.length : Int) != (l0_0.length : Int)) = false := bne_eq_false_iff_eq.mpr c9
     have c9b2 : (l1_1.length == l0_0.length) = true := by first | simpa using c9 | (simp at c9 ⊢; omega)
     clear c9
     have H' := aM_ H
     clear H
     have hnb10 := NB139_140.out
     have hnc10 := NB140_139.out
     obtain ⟨hcz11_0, hcz11_1, hfz11_0, hfz11_1⟩ := bR2_ BK139.out
     go_wp2_with (first | ((with_reducible refine gate_callee (f := 40) rfl ?_); refine gL_ (some 10) Try.func40 #[.agg #[.slice A0_0 l0_0.length c0_0, .slice A0_1 l0_1.length c0_1]] ?_; (with_reducible refine (spec_ProgOk.calls k _ _ l0_0 _ _ l0_1 true _ ?side1 ?side2 ?side3 ?side4 A6.out).mono ?_); (case side1 => exact cS_ (Kd.C_below HR0_0.out HB.out)); (case side2 => exact HC0_0.out); (case side3 => exact cS_ (Kd.C_below HR0_1.out HB.out)); (case side4 => exact HC0_1.out); rintro e w12 ⟨rfl, hb⟩; refine ⟨_, rfl, ?_⟩; have n0 := aM_ (nB_ BK139.out hb); have n1 := aM_ (nB_ BK140.out hb); have n2 := aM_ (sT_ HB.out hb); clear BK139; clear BK140; clear HB; have BK139 := n0; have BK140 := n1; have HB := n2; clear n0 n1 n2; obtain ⟨hcz13_0, hcz13_1, hcz13_2, hfz13_0, hfz13_1, hfz13_2⟩ := bR3_ BK140.out; obtain ⟨hcz14_0, hcz14_1, hfz14_0, hfz14_1⟩ := bR2_ BK139.out))
     go_meet
     case rel => exact ⟨_, (decide ((l1_2.length : Int) > 4000)), (by first | rfl | (simp; done) | (simp [*]; done)), H', ⟨by first | omega | exact Nat.le_refl _⟩, ⟨rW_ BK139.out⟩, ⟨rW_ BK140.out⟩, ⟨gW_ HB.out⟩⟩
    ·rw [if_neg c9] at H
     have c9b0 : ((l1_1.length : Int) == (l0_0.length : Int)) = false := beq_eq_false_iff_ne.mpr c9
     have c9b1 : ((l1_1.length : Int) != (l0_0.length : Int)) = true := bne_iff_ne.mpr c9
     have c9b2 : (l1_1.length == l0_0.length) = false := by first | simpa using c9 | (simp at c9 ⊢; omega)
     have H' := aM_ H
     clear H
     have hnb15 := NB139_140.out
     have hnc15 := NB140_139.out
     obtain ⟨hcz16_0, hcz16_1, hfz16_0, hfz16_1⟩ := bR2_ BK139.out
     go_wp2_with (first | ((with_reducible refine gate_callee (f := 40) rfl ?_); refine gL_ (some 10) Try.func40 #[.agg #[.slice A0_0 l0_0.length c0_0, .slice A0_1 l0_1.length c0_1]] ?_; (with_reducible refine (spec_ProgOk.calls k _ _ l0_0 _ _ l0_1 true _ ?side1 ?side2 ?side3 ?side4 A6.out).mono ?_); (case side1 => exact cS_ (Kd.C_below HR0_0.out HB.out)); (case side2 => exact HC0_0.out); (case side3 => exact cS_ (Kd.C_below HR0_1.out HB.out)); (case side4 => exact HC0_1.out); rintro e w17 ⟨rfl, hb⟩; refine ⟨_, rfl, ?_⟩; have n0 := aM_ (nB_ BK139.out hb); have n1 := aM_ (nB_ BK140.out hb); have n2 := aM_ (sT_ HB.out hb); clear BK139; clear BK140; clear HB; have BK139 := n0; have BK140 := n1; have HB := n2; clear n0 n1 n2; obtain ⟨hcz18_0, hcz18_1, hcz18_2, hfz18_0, hfz18_1, hfz18_2⟩ := bR3_ BK140.out; obtain ⟨hcz19_0, hcz19_1, hfz19_0, hfz19_1⟩ := bR2_ BK139.out))
     go_meet
     case rel => exact ⟨_, (true), (by first | rfl | (simp; done) | (simp [*]; done)), H', ⟨by first | omega | exact Nat.le_refl _⟩, ⟨rW_ BK139.out⟩, ⟨rW_ BK140.out⟩, ⟨gW_ HB.out⟩⟩
   ·rw [if_neg c8] at H
    have c8b0 : ((l1_0.length : Int) == (l0_1.length : Int)) = false := beq_eq_false_iff_ne.mpr c8
    have c8b1 : ((l1_0.length : Int) != (l0_1.length : Int)) = true := bne_iff_ne.mpr c8
    have c8b2 : (l1_0.length == l0_1.length) = false := by first | simpa using c8 | (simp at c8 ⊢; omega)
    (first | rw [c8b0] | (simp only [i64_w, i32_w]; rw [c8b0]) | skip)
    have H' := aM_ H
    clear H
    have hnb20 := NB139_140.out
    have hnc20 := NB140_139.out
    obtain ⟨hcz21_0, hcz21_1, hfz21_0, hfz21_1⟩ := bR2_ BK139.out
    go_wp2_with (first | ((with_reducible refine gate_callee (f := 40) rfl ?_); refine gL_ (some 10) Try.func40 #[.agg #[.slice A0_0 l0_0.length c0_0, .slice A0_1 l0_1.length c0_1]] ?_; (with_reducible refine (spec_ProgOk.calls k _ _ l0_0 _ _ l0_1 true _ ?side1 ?side2 ?side3 ?side4 A6.out).mono ?_); (case side1 => exact cS_ (Kd.C_below HR0_0.out HB.out)); (case side2 => exact HC0_0.out); (case side3 => exact cS_ (Kd.C_below HR0_1.out HB.out)); (case side4 => exact HC0_1.out); rintro e w22 ⟨rfl, hb⟩; refine ⟨_, rfl, ?_⟩; have n0 := aM_ (nB_ BK139.out hb); have n1 := aM_ (nB_ BK140.out hb); have n2 := aM_ (sT_ HB.out hb); clear BK139; clear BK140; clear HB; have BK139 := n0; have BK140 := n1; have HB := n2; clear n0 n1 n2; obtain ⟨hcz23_0, hcz23_1, hcz23_2, hfz23_0, hfz23_1, hfz23_2⟩ := bR3_ BK140.out; obtain ⟨hcz24_0, hcz24_1, hfz24_0, hfz24_1⟩ := bR2_ BK139.out))
    go_meet
    case rel => exact ⟨_, (true), (by first | rfl | (simp; done) | (simp [*]; done)), H', ⟨by first | omega | exact Nat.le_refl _⟩, ⟨rW_ BK139.out⟩, ⟨rW_ BK140.out⟩, ⟨gW_ HB.out⟩⟩
  ·replace c7 := Bool.eq_false_iff.mpr c7
   subst c7
   have H1 : (spec_SourceOk.j0 k true l0_0 l0_1 l1_0 l1_1 l1_2) = some r := by rw [if_neg (show ¬ (false = true) by decide)] at H; exact H
   clear H
   have H := H1
   clear H1
   have H' := aM_ H
   clear H
   have hnb25 := NB139_140.out
   have hnc25 := NB140_139.out
   obtain ⟨hcz26_0, hcz26_1, hfz26_0, hfz26_1⟩ := bR2_ BK139.out
   go_wp2_with (first | ((with_reducible refine gate_callee (f := 40) rfl ?_); refine gL_ (some 10) Try.func40 #[.agg #[.slice A0_0 l0_0.length c0_0, .slice A0_1 l0_1.length c0_1]] ?_; (with_reducible refine (spec_ProgOk.calls k _ _ l0_0 _ _ l0_1 false _ ?side1 ?side2 ?side3 ?side4 A6.out).mono ?_); (case side1 => exact cS_ (Kd.C_below HR0_0.out HB.out)); (case side2 => exact HC0_0.out); (case side3 => exact cS_ (Kd.C_below HR0_1.out HB.out)); (case side4 => exact HC0_1.out); rintro e w27 ⟨rfl, hb⟩; refine ⟨_, rfl, ?_⟩; have n0 := aM_ (nB_ BK139.out hb); have n1 := aM_ (nB_ BK140.out hb); have n2 := aM_ (sT_ HB.out hb); clear BK139; clear BK140; clear HB; have BK139 := n0; have BK140 := n1; have HB := n2; clear n0 n1 n2))
   go_meet
   case rel => exact ⟨_, (true), (by first | rfl | (simp; done) | (simp [*]; done)), H', ⟨by first | omega | exact Nat.le_refl _⟩, ⟨rW_ BK139.out⟩, ⟨rW_ BK140.out⟩, ⟨gW_ HB.out⟩⟩
 case rest =>
  clear HC3
  try clear c1
  try clear c2
  try clear p2
  try clear c4
  try clear c7
  try clear c8
  try clear c8b0
  try clear c8b1
  try clear c8b2
  try clear c9
  try clear c9b0
  try clear c9b1
  try clear c9b2
  try clear c10
  try clear c15
  try clear c20
  try clear c25
  try clear hcz11_0
  try clear hcz11_1
  try clear hcz13_0
  try clear hcz13_1
  try clear hcz13_2
  try clear hcz14_0
  try clear hcz14_1
  try clear hcz16_0
  try clear hcz16_1
  try clear hcz18_0
  try clear hcz18_1
  try clear hcz18_2
  try clear hcz19_0
  try clear hcz19_1
  try clear hcz21_0
  try clear hcz21_1
  try clear hcz23_0
  try clear hcz23_1
  try clear hcz23_2
  try clear hcz24_0
  try clear hcz24_1
  try clear hcz26_0
  try clear hcz26_1
  try clear hfz11_0
  try clear hfz11_1
  try clear hfz13_0
  try clear hfz13_1
  try clear hfz13_2
  try clear hfz14_0
  try clear hfz14_1
  try clear hfz16_0
  try clear hfz16_1
  try clear hfz18_0
  try clear hfz18_1
  try clear hfz18_2
  try clear hfz19_0
  try clear hfz19_1
  try clear hfz21_0
  try clear hfz21_1
  try clear hfz23_0
  try clear hfz23_1
  try clear hfz23_2
  try clear hfz24_0
  try clear hfz24_1
  try clear hfz26_0
  try clear hfz26_1
  obtain ⟨kq, x35_2, rfl, HA, HJ2, BK139, BK140, HB⟩ := hcut
  cases kq with
  | zero => exact absurd HA.out (by simp [spec_SourceOk.j0])
  | succ kj2 =>
   have H := HA.out
   clear HA
   simp only [spec_SourceOk.j0] at H
   by_cases c28 : x35_2 = true
   ·subst c28
    have H1 : (some false) = some r := by rw [if_pos rfl] at H; exact H
    clear H
    have H := H1
    clear H1
    obtain rfl := Option.some.inj H
    go_wp2
    go_ret
    exact fI_ HB.out
   ·replace c28 := Bool.eq_false_iff.mpr c28
    subst c28
    have H1 : (spec_SourceOk.l0 kj2 0 l0_0 l0_1 l1_0 l1_1 l1_2) = some r := by rw [if_neg (show ¬ (false = true) by decide)] at H; exact H
    clear H
    have H := H1
    clear H1
    have H' := aM_ H
    clear H
    go_wp2
    go_loopg [5] kj2 (fun kq v5 w' => ∃ (x5_2 : Int), v5 = .int .i64 x5_2 ∧ Aside0 (spec_SourceOk.l0 kq x5_2 l0_0 l0_1 l1_0 l1_1 l1_2 = some r) ∧ Aside0 (kq ≤ kj2) ∧ Aside0 (w'.heap[gb139]? = some (.cells #[(.slice A0_0 l0_0.length c0_0), (.slice A0_1 l0_1.length c0_1)] 49 (0, 0))) ∧ Aside0 (w'.heap[gb140]? = some (.cells #[(.slice A1_0 l1_0.length c1_0), (.slice A1_1 l1_1.length c1_1), (.slice A1_2 l1_2.length c1_2)] 55 (0, 0))) ∧ Aside0 (Below w.heap.size w w'))
    case atStart => exact ⟨(0), (by first | rfl | (simp; done) | (simp [*]; done)), H', ⟨Nat.le_refl _⟩, ⟨rW_ BK139.out⟩, ⟨rW_ BK140.out⟩, ⟨gW_ HB.out⟩⟩
    case round =>
     clear H'
     try clear c1
     try clear c2
     try clear p2
     try clear c4
     try clear c7
     try clear c8
     try clear c8b0
     try clear c8b1
     try clear c8b2
     try clear c9
     try clear c9b0
     try clear c9b1
     try clear c9b2
     try clear c10
     try clear c15
     try clear c20
     try clear c25
     try clear c28
     try clear hcz11_0
     try clear hcz11_1
     try clear hcz13_0
     try clear hcz13_1
     try clear hcz13_2
     try clear hcz14_0
     try clear hcz14_1
     try clear hcz16_0
     try clear hcz16_1
     try clear hcz18_0
     try clear hcz18_1
     try clear hcz18_2
     try clear hcz19_0
     try clear hcz19_1
     try clear hcz21_0
     try clear hcz21_1
     try clear hcz23_0
     try clear hcz23_1
     try clear hcz23_2
     try clear hcz24_0
     try clear hcz24_1
     try clear hcz26_0
     try clear hcz26_1
     try clear hfz11_0
     try clear hfz11_1
     try clear hfz13_0
     try clear hfz13_1
     try clear hfz13_2
     try clear hfz14_0
     try clear hfz14_1
     try clear hfz16_0
     try clear hfz16_1
     try clear hfz18_0
     try clear hfz18_1
     try clear hfz18_2
     try clear hfz19_0
     try clear hfz19_1
     try clear hfz21_0
     try clear hfz21_1
     try clear hfz23_0
     try clear hfz23_1
     try clear hfz23_2
     try clear hfz24_0
     try clear hfz24_1
     try clear hfz26_0
     try clear hfz26_1
     try clear p2
     obtain ⟨x5_2, rfl, HA, HK2, BK139, BK140, HB⟩ := hrel
     cases gk with
     | zero => exact absurd HA.out (by simp [spec_SourceOk.l0])
     | succ k2 =>
      have H := HA.out
      clear HA
      simp only [spec_SourceOk.l0] at H
      by_cases c29 : x5_2 < (l1_0.length : Int)
      ·rw [if_pos c29] at H
       have c29b0 : decide (x5_2 < (l1_0.length : Int)) = true := decide_eq_true c29
       clear c29
       by_cases c30 : 0 ≤ x5_2
       ·rw [if_pos c30] at H
        have c30b0 : decide (0 ≤ x5_2) = true := decide_eq_true c30
        clear c30
        have HC31 := aM_ H
        clear H
        have hnb32 := NB140_139.out
        have hnc32 := NB139_140.out
        obtain ⟨hcz33_0, hcz33_1, hcz33_2, hfz33_0, hfz33_1, hfz33_2⟩ := bR3_ BK140.out
        have p142 : 0 ≤ (x5_2 : Int) := of_decide_eq_true (by first | (with_reducible assumption) | assumption)
        have q142 : x5_2 < (l1_0.length : Int) := of_decide_eq_true (by first | (with_reducible assumption) | assumption)
        obtain ⟨ad142, A142_1, c142_1, e142, hx142_0, hx142_1, hx142_2, hl142_1, hi142_1⟩ := at_T86 HR1_0.out x5_2 p142 q142
        cases e142
        replace hx142_0 := cB_ HB.out hx142_0
        replace hx142_1 := cB_ HB.out hx142_1
        replace hx142_2 := cB_ HB.out hx142_2
        have HR142_1 := aM_ hi142_1
        have HC142_1 := aM_ hl142_1
        clear hi142_1 hl142_1
        replace p142 := eq_true p142
        replace q142 := eq_true q142
        go_upto_region 7 with (first | ((with_reducible refine gate_dst (N := 6) rfl ?_); (try (refine gate_guard (by rfl) ?_; dsimp only)); refine bX_ 6 (cs := #[.int .i64 0, .slice none 0 0, .int .i64 0]) (t := 86) ?_; intro gb143 hg w34 hbox hb; have n0 := aM_ (nB_ BK139.out hb); have n1 := aM_ (nB_ BK140.out hb); have n2 := aM_ (sT_ HB.out hb); have n3 := aM_ (hbox); have n4 := aM_ (sZ_ hg HB.out); have n5 := aM_ (sZ_ hg HB.out); have n6 := aM_ (nL_ hg BK139.out); have n7 := aM_ (nG_ hg BK139.out); have n8 := aM_ (nL_ hg BK140.out); have n9 := aM_ (nG_ hg BK140.out); clear BK139; clear BK140; clear HB; have BK139 := n0; have BK140 := n1; have HB := n2; have BK143 := n3; have GW143 := n4; have GE143 := n5; have NB139_143 := n6; have NB143_139 := n7; have NB140_143 := n8; have NB143_140 := n9; clear n0 n1 n2 n3 n4 n5 n6 n7 n8 n9; clear hb hbox hg; have hnb35 := NB143_139.out; have hnc35 := NB139_143.out; have hnb36 := NB143_140.out; have hnc36 := NB140_143.out; obtain ⟨hcz37_0, hcz37_1, hcz37_2, hfz37_0, hfz37_1, hfz37_2⟩ := bR3_ BK143.out))
        (try simp only [Act.put, List.setIfInBounds_toArray, List.set_cons_zero, List.set_cons_succ])
        go_cut [70] (fun v70 wc => ∃ (kq : Nat) (x70_30 : Bool), v70 = .bool x70_30 ∧ Aside0 (spec_SourceOk.j2 kq x5_2 x70_30 l0_0 l0_1 l1_0 l1_1 l1_2 = some r) ∧ Aside0 (kq ≤ k2) ∧ Aside0 (wc.heap[gb139]? = some (.cells #[(.slice A0_0 l0_0.length c0_0), (.slice A0_1 l0_1.length c0_1)] 49 (0, 0))) ∧ Aside0 (wc.heap[gb140]? = some (.cells #[(.slice (some ad142) l1_0.length c1_0), (.slice A1_1 l1_1.length c1_1), (.slice A1_2 l1_2.length c1_2)] 55 (0, 0))) ∧ Aside0 (wc.heap[gb143]? = some (.cells #[.int .i64 ((rd_T86 l1_0 x5_2).f0), (.slice A142_1 ((rd_T86 l1_0 x5_2).f1).length c142_1), .int .i64 ((rd_T86 l1_0 x5_2).f2)] 86 (0, 0))) ∧ Aside0 (Below w.heap.size w wc))
        case first =>
         have H := HC31.out
         clear HC31
         by_cases c38 : (((rd_T86 l1_0 x5_2).f1).length : Int) = 4
         ·rw [if_pos c38] at H
          have c38b0 : ((((rd_T86 l1_0 x5_2).f1).length : Int) == 4) = true := beq_iff_eq.mpr c38
          have c38b1 : ((((rd_T86 l1_0 x5_2).f1).length : Int) != 4) = false := bne_eq_false_iff_eq.mpr c38
          clear c38
          (first | rw [c38b0] | (simp only [i64_w, i32_w]; rw [c38b0]) | skip)
          replace H := Option.bind_eq_some_iff.mp H
          obtain ⟨t144, A390, H⟩ := H
          replace H : (if t144 = true then (if x5_2 < (l0_1.length : Int) then ((spec_l1In.f ((rd_T86 l1_0 x5_2).f0) 0 (wrap64 (((rd_L9 l0_1 x5_2).length : Int) - 1))).bind fun t146 => (spec_SourceOk.j2 k2 x5_2 (!t146) l0_0 l0_1 l1_0 l1_1 l1_2)) else (none)) else (spec_SourceOk.j2 k2 x5_2 true l0_0 l0_1 l1_0 l1_1 l1_2)) = some r := H
          have A39 := aM_ A390
          clear A390
          by_cases c40 : t144 = true
          ·subst c40
           have H1 : (if x5_2 < (l0_1.length : Int) then ((spec_l1In.f ((rd_T86 l1_0 x5_2).f0) 0 (wrap64 (((rd_L9 l0_1 x5_2).length : Int) - 1))).bind fun t146 => (spec_SourceOk.j2 k2 x5_2 (!t146) l0_0 l0_1 l1_0 l1_1 l1_2)) else (none)) = some r := by rw [if_pos rfl] at H; exact H
           clear H
           have H := H1
           clear H1
           by_cases c41 : x5_2 < (l0_1.length : Int)
           ·rw [if_pos c41] at H
            have c41b0 : decide (x5_2 < (l0_1.length : Int)) = true := decide_eq_true c41
            clear c41
            replace H := Option.bind_eq_some_iff.mp H
            obtain ⟨t146, A420, H⟩ := H
            replace H : (spec_SourceOk.j2 k2 x5_2 (!t146) l0_0 l0_1 l1_0 l1_1 l1_2) = some r := H
            have A42 := aM_ A420
            clear A420
            have H' := aM_ H
            clear H
            try go_wp2
            have n0 : Aside0 ((((w34.setCell ⟨gb143, 0, none⟩ (.int .i64 ((rd_T86 l1_0 x5_2).f0))).setCell ⟨gb143, 1, none⟩ (.slice A142_1 ((rd_T86 l1_0 x5_2).f1).length c142_1)).setCell ⟨gb143, 2, none⟩ (.int .i64 ((rd_T86 l1_0 x5_2).f2))).heap[gb139]? = some (.cells #[.slice A0_0 l0_0.length c0_0, .slice A0_1 l0_1.length c0_1] 49 (0, 0))) := ⟨by (with_reducible repeat (first | refine bN_ ?_ _ | refine bD_ ?_ | refine bA_ ?_ _)); refine blk_far ?_ NB139_143.out _; (with_reducible repeat (first | refine bN_ ?_ _ | refine bD_ ?_ | refine bA_ ?_ _)); refine blk_far ?_ NB139_143.out _; (with_reducible repeat (first | refine bN_ ?_ _ | refine bD_ ?_ | refine bA_ ?_ _)); refine blk_far ?_ NB139_143.out _; (with_reducible repeat (first | refine bN_ ?_ _ | refine bD_ ?_ | refine bA_ ?_ _)); exact BK139.out⟩
            have n1 : Aside0 ((((w34.setCell ⟨gb143, 0, none⟩ (.int .i64 ((rd_T86 l1_0 x5_2).f0))).setCell ⟨gb143, 1, none⟩ (.slice A142_1 ((rd_T86 l1_0 x5_2).f1).length c142_1)).setCell ⟨gb143, 2, none⟩ (.int .i64 ((rd_T86 l1_0 x5_2).f2))).heap[gb140]? = some (.cells #[.slice (some ad142) l1_0.length c1_0, .slice A1_1 l1_1.length c1_1, .slice A1_2 l1_2.length c1_2] 55 (0, 0))) := ⟨by (with_reducible repeat (first | refine bN_ ?_ _ | refine bD_ ?_ | refine bA_ ?_ _)); refine blk_far ?_ NB140_143.out _; (with_reducible repeat (first | refine bN_ ?_ _ | refine bD_ ?_ | refine bA_ ?_ _)); refine blk_far ?_ NB140_143.out _; (with_reducible repeat (first | refine bN_ ?_ _ | refine bD_ ?_ | refine bA_ ?_ _)); refine blk_far ?_ NB140_143.out _; (with_reducible repeat (first | refine bN_ ?_ _ | refine bD_ ?_ | refine bA_ ?_ _)); exact BK140.out⟩
            have n2 : Aside0 ((((w34.setCell ⟨gb143, 0, none⟩ (.int .i64 ((rd_T86 l1_0 x5_2).f0))).setCell ⟨gb143, 1, none⟩ (.slice A142_1 ((rd_T86 l1_0 x5_2).f1).length c142_1)).setCell ⟨gb143, 2, none⟩ (.int .i64 ((rd_T86 l1_0 x5_2).f2))).heap[gb143]? = some (.cells #[.int .i64 ((rd_T86 l1_0 x5_2).f0), .slice A142_1 ((rd_T86 l1_0 x5_2).f1).length c142_1, .int .i64 ((rd_T86 l1_0 x5_2).f2)] 86 (0, 0))) := ⟨by (with_reducible repeat (first | refine bN_ ?_ _ | refine bD_ ?_ | refine bA_ ?_ _)); refine blk_put (cs := #[.int .i64 ((rd_T86 l1_0 x5_2).f0), .slice A142_1 ((rd_T86 l1_0 x5_2).f1).length c142_1, .int .i64 0]) ?_ 2 _ rfl; (with_reducible repeat (first | refine bN_ ?_ _ | refine bD_ ?_ | refine bA_ ?_ _)); refine blk_put (cs := #[.int .i64 ((rd_T86 l1_0 x5_2).f0), .slice none 0 0, .int .i64 0]) ?_ 1 _ rfl; (with_reducible repeat (first | refine bN_ ?_ _ | refine bD_ ?_ | refine bA_ ?_ _)); refine blk_put (cs := #[.int .i64 0, .slice none 0 0, .int .i64 0]) ?_ 0 _ rfl; (with_reducible repeat (first | refine bN_ ?_ _ | refine bD_ ?_ | refine bA_ ?_ _)); exact BK143.out⟩
            have n3 : Aside0 (Below w.heap.size w (((w34.setCell ⟨gb143, 0, none⟩ (.int .i64 ((rd_T86 l1_0 x5_2).f0))).setCell ⟨gb143, 1, none⟩ (.slice A142_1 ((rd_T86 l1_0 x5_2).f1).length c142_1)).setCell ⟨gb143, 2, none⟩ (.int .i64 ((rd_T86 l1_0 x5_2).f2)))) := ⟨gW_ HB.out⟩
            (try clear BK139)
            (try clear BK140)
            (try clear BK143)
            (try clear HB)
            generalize (((w34.setCell ⟨gb143, 0, none⟩ (.int .i64 ((rd_T86 l1_0 x5_2).f0))).setCell ⟨gb143, 1, none⟩ (.slice A142_1 ((rd_T86 l1_0 x5_2).f1).length c142_1)).setCell ⟨gb143, 2, none⟩ (.int .i64 ((rd_T86 l1_0 x5_2).f2))) = w43 at n0 n1 n2 n3 ⊢
            have BK139 := n0
            have BK140 := n1
            have BK143 := n2
            have HB := n3
            clear n0 n1 n2 n3
            have n0 := aM_ (blk_drew BK139.out)
            have n1 := aM_ (blk_drew BK140.out)
            have n2 := aM_ (blk_drew BK143.out)
            have n3 := aM_ (below_drew1 HB.out)
            clear BK139
            clear BK140
            clear BK143
            clear HB
            have BK139 := n0
            have BK140 := n1
            have BK143 := n2
            have HB := n3
            clear n0 n1 n2 n3
            have p145 : 0 ≤ (x5_2 : Int) := of_decide_eq_true (by first | (with_reducible assumption) | assumption)
            have q145 : x5_2 < (l0_1.length : Int) := of_decide_eq_true (by first | (with_reducible assumption) | assumption)
            obtain ⟨ad145, A145_0, c145_0, e145, hx145_0, hl145_0, hi145_0⟩ := at_L9 HR0_1.out x5_2 p145 q145
            have hw145_0 := hx145_0
            cases e145
            replace hx145_0 := cB_ HB.out hx145_0
            have HR145_0 := aM_ hi145_0
            have HC145_0 := aM_ hl145_0
            clear hi145_0 hl145_0
            replace p145 := eq_true p145
            replace q145 := eq_true q145
            refine start_ (n := 23) (S := fun w' => w'.cell? ⟨gb143, 0, none⟩ = some (.int .i64 ((rd_T86 l1_0 x5_2).f0)) ∧ w'.cell? ⟨gb143, 1, none⟩ = some (.slice A142_1 ((rd_T86 l1_0 x5_2).f1).length c142_1) ∧ w'.cell? ⟨gb143, 2, none⟩ = some (.int .i64 ((rd_T86 l1_0 x5_2).f2)) ∧ w'.cell? ⟨gb139, 0, none⟩ = some (.slice A0_0 l0_0.length c0_0) ∧ w'.cell? ⟨gb139, 1, none⟩ = some (.slice (some ad145) l0_1.length c0_1) ∧ w'.cell? (ad145.add (x5_2).toNat) = some (.slice A145_0 (rd_L9 l0_1 x5_2).length c145_0)) (ds := []) (mk_ 23 0) (by kernel_rfl) rfl rfl ⟨(blk_cell BK143.out 0).trans rfl, (blk_cell BK143.out 1).trans rfl, (blk_cell BK143.out 2).trans rfl, (blk_cell BK139.out 0).trans rfl, (blk_cell BK139.out 1).trans rfl, (cB_ HB.out hw145_0 :)⟩ (fun hHeld => ?_); refine with_tabW spec_SourceOk.tab7 spec_SourceOk.bits7 (fun HT_ HW_ => ?_)
            generalize w43.drew = w44 at BK139 BK140 BK143 HB HR145_0 hx145_0 hHeld ⊢
            refine pU_ 0 (some 48) (mk_ 23 1) ?_
            refine tK6_ 1 (some 49) (mk_ 23 3) ?_
            refine pU_ 2 (some 50) (mk_ 23 7) ?_
            refine pU_ 3 (some 51) (mk_ 23 15) ?_
            refine pU_ 4 (some 52) (mk_ 23 31) ?_
            refine pU_ 5 (some 53) (mk_ 23 63) ?_
            refine tK6_ 6 (some 54) (mk_ 23 127) ?_
            refine oN_ 7 (some 55) (mk_ 23 255) (fun K hK => ?_)
            refine gO_ Try.func41 #[.int .i64 ((rd_T86 l1_0 x5_2).f2), .int .i64 0, .int .i64 2] ?_
            with_reducible refine (spec_l1In.calls ((rd_T86 l1_0 x5_2).f2) 0 2 true _ A39.out).mono ?_
            rintro e w' ⟨rfl, ⟨nd, rfl⟩⟩
            refine ⟨_, rfl, ?_⟩
            refine hK.out _ _ ⟨(blk_cell BK143.out 0).trans rfl, (blk_cell BK143.out 1).trans rfl, (blk_cell BK143.out 2).trans rfl, (blk_cell BK139.out 0).trans rfl, (blk_cell BK139.out 1).trans rfl, (cB_ HB.out hw145_0 :)⟩ (fun hHeld => ?_)
            clear hK K
            refine norm_ (a' := ?_) ?_ ?_
            rotate_left
            ·show Act.put _ (some 55) _ = _
             simp only [pt_, pn_, sI_, s0_, s1_, i64_w, i32_w]
             rfl
            refine pU_ 8 (some 56) (mk_ 23 511) ?_
            refine pU_ 9 (some 57) (mk_ 23 1023) ?_
            refine pU_ 10 (some 58) (mk_ 23 2047) ?_
            refine pU_ 11 (some 59) (mk_ 23 4095) ?_
            refine pU_ 13 (some 61) (mk_ 23 12287) ?_
            refine pU_ 15 (some 63) (mk_ 23 45055) ?_
            refine tK6_ 12 (some 60) (mk_ 23 49151) ?_
            refine tK6_ 14 (some 62) (mk_ 23 65535) ?_
            refine pU_ 16 (some 64) (mk_ 23 131071) ?_
            refine tK6_ 17 (some 65) (mk_ 23 262143) ?_
            refine pU_ 18 (some 66) (mk_ 23 524287) ?_
            refine pU_ 19 (some 67) (mk_ 23 1048575) ?_
            refine oN_ 20 (some 68) (mk_ 23 2097151) (fun K hK => ?_)
            refine gO_ Try.func41 #[.int .i64 ((rd_T86 l1_0 x5_2).f0), .int .i64 0, .int .i64 (wrap64 (((rd_L9 l0_1 x5_2).length : Int) - 1))] ?_
            with_reducible refine (spec_l1In.calls ((rd_T86 l1_0 x5_2).f0) 0 (wrap64 (((rd_L9 l0_1 x5_2).length : Int) - 1)) t146 _ A42.out).mono ?_
            rintro e w' ⟨rfl, ⟨nd, rfl⟩⟩
            refine ⟨_, rfl, ?_⟩
            refine hK.out _ _ ⟨(blk_cell BK143.out 0).trans rfl, (blk_cell BK143.out 1).trans rfl, (blk_cell BK143.out 2).trans rfl, (blk_cell BK139.out 0).trans rfl, (blk_cell BK139.out 1).trans rfl, (cB_ HB.out hw145_0 :)⟩ (fun hHeld => ?_)
            clear hK K
            refine norm_ (a' := ?_) ?_ ?_
            rotate_left
            ·show Act.put _ (some 68) _ = _
             simp only [pt_, pn_, sI_, s0_, s1_, i64_w, i32_w]
             rfl
            refine pU_ 21 (some 69) (mk_ 23 4194303) ?_
            refine pU_ 22 (some 70) (mk_ 23 8388607) ?_
            refine done_ (done_of HT_.out (by kernel_rfl)) ?_
            try go_wp2
            go_meet
            case rel => exact ⟨_, (!t146), (by first | rfl | (simp; done) | (simp [*]; done)), H', ⟨by have := HJ2.out; have := HK2.out; first | omega | exact Nat.le_refl _⟩, ⟨rW_ BK139.out⟩, ⟨rW_ BK140.out⟩, ⟨rW_ BK143.out⟩, ⟨gW_ HB.out⟩⟩
           ·rw [if_neg c41] at H
            exact absurd H (by simp)
          ·replace c40 := Bool.eq_false_iff.mpr c40
           subst c40
           have H1 : (spec_SourceOk.j2 k2 x5_2 true l0_0 l0_1 l1_0 l1_1 l1_2) = some r := by rw [if_neg (show ¬ (false = true) by decide)] at H; exact H
           clear H
           have H := H1
           clear H1
           have H' := aM_ H
           clear H
           try go_wp2
           have n0 : Aside0 ((((w34.setCell ⟨gb143, 0, none⟩ (.int .i64 ((rd_T86 l1_0 x5_2).f0))).setCell ⟨gb143, 1, none⟩ (.slice A142_1 ((rd_T86 l1_0 x5_2).f1).length c142_1)).setCell ⟨gb143, 2, none⟩ (.int .i64 ((rd_T86 l1_0 x5_2).f2))).heap[gb139]? = some (.cells #[.slice A0_0 l0_0.length c0_0, .slice A0_1 l0_1.length c0_1] 49 (0, 0))) := ⟨by (with_reducible repeat (first | refine bN_ ?_ _ | refine bD_ ?_ | refine bA_ ?_ _)); refine blk_far ?_ NB139_143.out _; (with_reducible repeat (first | refine bN_ ?_ _ | refine bD_ ?_ | refine bA_ ?_ _)); refine blk_far ?_ NB139_143.out _; (with_reducible repeat (first | refine bN_ ?_ _ | refine bD_ ?_ | refine bA_ ?_ _)); refine blk_far ?_ NB139_143.out _; (with_reducible repeat (first | refine bN_ ?_ _ | refine bD_ ?_ | refine bA_ ?_ _)); exact BK139.out⟩
           have n1 : Aside0 ((((w34.setCell ⟨gb143, 0, none⟩ (.int .i64 ((rd_T86 l1_0 x5_2).f0))).setCell ⟨gb143, 1, none⟩ (.slice A142_1 ((rd_T86 l1_0 x5_2).f1).length c142_1)).setCell ⟨gb143, 2, none⟩ (.int .i64 ((rd_T86 l1_0 x5_2).f2))).heap[gb140]? = some (.cells #[.slice (some ad142) l1_0.length c1_0, .slice A1_1 l1_1.length c1_1, .slice A1_2 l1_2.length c1_2] 55 (0, 0))) := ⟨by (with_reducible repeat (first | refine bN_ ?_ _ | refine bD_ ?_ | refine bA_ ?_ _)); refine blk_far ?_ NB140_143.out _; (with_reducible repeat (first | refine bN_ ?_ _ | refine bD_ ?_ | refine bA_ ?_ _)); refine blk_far ?_ NB140_143.out _; (with_reducible repeat (first | refine bN_ ?_ _ | refine bD_ ?_ | refine bA_ ?_ _)); refine blk_far ?_ NB140_143.out _; (with_reducible repeat (first | refine bN_ ?_ _ | refine bD_ ?_ | refine bA_ ?_ _)); exact BK140.out⟩
           have n2 : Aside0 ((((w34.setCell ⟨gb143, 0, none⟩ (.int .i64 ((rd_T86 l1_0 x5_2).f0))).setCell ⟨gb143, 1, none⟩ (.slice A142_1 ((rd_T86 l1_0 x5_2).f1).length c142_1)).setCell ⟨gb143, 2, none⟩ (.int .i64 ((rd_T86 l1_0 x5_2).f2))).heap[gb143]? = some (.cells #[.int .i64 ((rd_T86 l1_0 x5_2).f0), .slice A142_1 ((rd_T86 l1_0 x5_2).f1).length c142_1, .int .i64 ((rd_T86 l1_0 x5_2).f2)] 86 (0, 0))) := ⟨by (with_reducible repeat (first | refine bN_ ?_ _ | refine bD_ ?_ | refine bA_ ?_ _)); refine blk_put (cs := #[.int .i64 ((rd_T86 l1_0 x5_2).f0), .slice A142_1 ((rd_T86 l1_0 x5_2).f1).length c142_1, .int .i64 0]) ?_ 2 _ rfl; (with_reducible repeat (first | refine bN_ ?_ _ | refine bD_ ?_ | refine bA_ ?_ _)); refine blk_put (cs := #[.int .i64 ((rd_T86 l1_0 x5_2).f0), .slice none 0 0, .int .i64 0]) ?_ 1 _ rfl; (with_reducible repeat (first | refine bN_ ?_ _ | refine bD_ ?_ | refine bA_ ?_ _)); refine blk_put (cs := #[.int .i64 0, .slice none 0 0, .int .i64 0]) ?_ 0 _ rfl; (with_reducible repeat (first | refine bN_ ?_ _ | refine bD_ ?_ | refine bA_ ?_ _)); exact BK143.out⟩
           have n3 : Aside0 (Below w.heap.size w (((w34.setCell ⟨gb143, 0, none⟩ (.int .i64 ((rd_T86 l1_0 x5_2).f0))).setCell ⟨gb143, 1, none⟩ (.slice A142_1 ((rd_T86 l1_0 x5_2).f1).length c142_1)).setCell ⟨gb143, 2, none⟩ (.int .i64 ((rd_T86 l1_0 x5_2).f2)))) := ⟨gW_ HB.out⟩
           (try clear BK139)
           (try clear BK140)
           (try clear BK143)
           (try clear HB)
           generalize (((w34.setCell ⟨gb143, 0, none⟩ (.int .i64 ((rd_T86 l1_0 x5_2).f0))).setCell ⟨gb143, 1, none⟩ (.slice A142_1 ((rd_T86 l1_0 x5_2).f1).length c142_1)).setCell ⟨gb143, 2, none⟩ (.int .i64 ((rd_T86 l1_0 x5_2).f2))) = w45 at n0 n1 n2 n3 ⊢
           have BK139 := n0
           have BK140 := n1
           have BK143 := n2
           have HB := n3
           clear n0 n1 n2 n3
           have n0 := aM_ (blk_drew BK139.out)
           have n1 := aM_ (blk_drew BK140.out)
           have n2 := aM_ (blk_drew BK143.out)
           have n3 := aM_ (below_drew1 HB.out)
           clear BK139
           clear BK140
           clear BK143
           clear HB
           have BK139 := n0
           have BK140 := n1
           have BK143 := n2
           have HB := n3
           clear n0 n1 n2 n3
           refine start_ (n := 23) (S := fun w' => w'.cell? ⟨gb143, 0, none⟩ = some (.int .i64 ((rd_T86 l1_0 x5_2).f0)) ∧ w'.cell? ⟨gb143, 1, none⟩ = some (.slice A142_1 ((rd_T86 l1_0 x5_2).f1).length c142_1) ∧ w'.cell? ⟨gb143, 2, none⟩ = some (.int .i64 ((rd_T86 l1_0 x5_2).f2))) (ds := []) (mk_ 23 0) (by kernel_rfl) rfl rfl ⟨(blk_cell BK143.out 0).trans rfl, (blk_cell BK143.out 1).trans rfl, (blk_cell BK143.out 2).trans rfl⟩ (fun hHeld => ?_); refine with_tabW spec_SourceOk.tab7 spec_SourceOk.bits7 (fun HT_ HW_ => ?_)
           generalize w45.drew = w46 at BK139 BK140 BK143 HB hHeld ⊢
           refine pU_ 0 (some 48) (mk_ 23 1) ?_
           refine tK3_ 1 (some 49) (mk_ 23 3) ?_
           refine pU_ 2 (some 50) (mk_ 23 7) ?_
           refine pU_ 3 (some 51) (mk_ 23 15) ?_
           refine pU_ 4 (some 52) (mk_ 23 31) ?_
           refine pU_ 5 (some 53) (mk_ 23 63) ?_
           refine tK3_ 6 (some 54) (mk_ 23 127) ?_
           refine oN_ 7 (some 55) (mk_ 23 255) (fun K hK => ?_)
           refine gO_ Try.func41 #[.int .i64 ((rd_T86 l1_0 x5_2).f2), .int .i64 0, .int .i64 2] ?_
           with_reducible refine (spec_l1In.calls ((rd_T86 l1_0 x5_2).f2) 0 2 false _ A39.out).mono ?_
           rintro e w' ⟨rfl, ⟨nd, rfl⟩⟩
           refine ⟨_, rfl, ?_⟩
           refine hK.out _ _ ⟨(blk_cell BK143.out 0).trans rfl, (blk_cell BK143.out 1).trans rfl, (blk_cell BK143.out 2).trans rfl⟩ (fun hHeld => ?_)
           clear hK K
           refine norm_ (a' := ?_) ?_ ?_
           rotate_left
           ·show Act.put _ (some 55) _ = _
            simp only [pt_, pn_, sI_, s0_, s1_, i64_w, i32_w]
            rfl
           refine pU_ 8 (some 56) (mk_ 23 511) ?_
           refine pU_ 9 (some 57) (mk_ 23 1023) ?_
           refine pU_ 10 (some 58) (mk_ 23 2047) ?_
           refine pX_ 11 (some 59) (mk_ 23 4095) ?_
           refine pX_ 12 (some 60) (mk_ 23 8191) ?_
           refine pX_ 13 (some 61) (mk_ 23 16383) ?_
           refine pX_ 14 (some 62) (mk_ 23 32767) ?_
           refine pX_ 15 (some 63) (mk_ 23 65535) ?_
           refine pX_ 16 (some 64) (mk_ 23 131071) ?_
           refine pX_ 17 (some 65) (mk_ 23 262143) ?_
           refine pX_ 18 (some 66) (mk_ 23 524287) ?_
           refine pX_ 19 (some 67) (mk_ 23 1048575) ?_
           refine pX_ 20 (some 68) (mk_ 23 2097151) ?_
           refine pX_ 21 (some 69) (mk_ 23 4194303) ?_
           refine pU_ 22 (some 70) (mk_ 23 8388607) ?_
           refine done_ (done_of HT_.out (by kernel_rfl)) ?_
           try go_wp2
           go_meet
           case rel => exact ⟨_, (true), (by first | rfl | (simp; done) | (simp [*]; done)), H', ⟨by have := HJ2.out; have := HK2.out; first | omega | exact Nat.le_refl _⟩, ⟨rW_ BK139.out⟩, ⟨rW_ BK140.out⟩, ⟨rW_ BK143.out⟩, ⟨gW_ HB.out⟩⟩
         ·rw [if_neg c38] at H
          have c38b0 : ((((rd_T86 l1_0 x5_2).f1).length : Int) == 4) = false := beq_eq_false_iff_ne.mpr c38
          have c38b1 : ((((rd_T86 l1_0 x5_2).f1).length : Int) != 4) = true := bne_iff_ne.mpr c38
          (first | rw [c38b0] | (simp only [i64_w, i32_w]; rw [c38b0]) | skip)
          have H' := aM_ H
          clear H
          try go_wp2
          have n0 : Aside0 ((((w34.setCell ⟨gb143, 0, none⟩ (.int .i64 ((rd_T86 l1_0 x5_2).f0))).setCell ⟨gb143, 1, none⟩ (.slice A142_1 ((rd_T86 l1_0 x5_2).f1).length c142_1)).setCell ⟨gb143, 2, none⟩ (.int .i64 ((rd_T86 l1_0 x5_2).f2))).heap[gb139]? = some (.cells #[.slice A0_0 l0_0.length c0_0, .slice A0_1 l0_1.length c0_1] 49 (0, 0))) := ⟨by (with_reducible repeat (first | refine bN_ ?_ _ | refine bD_ ?_ | refine bA_ ?_ _)); refine blk_far ?_ NB139_143.out _; (with_reducible repeat (first | refine bN_ ?_ _ | refine bD_ ?_ | refine bA_ ?_ _)); refine blk_far ?_ NB139_143.out _; (with_reducible repeat (first | refine bN_ ?_ _ | refine bD_ ?_ | refine bA_ ?_ _)); refine blk_far ?_ NB139_143.out _; (with_reducible repeat (first | refine bN_ ?_ _ | refine bD_ ?_ | refine bA_ ?_ _)); exact BK139.out⟩
          have n1 : Aside0 ((((w34.setCell ⟨gb143, 0, none⟩ (.int .i64 ((rd_T86 l1_0 x5_2).f0))).setCell ⟨gb143, 1, none⟩ (.slice A142_1 ((rd_T86 l1_0 x5_2).f1).length c142_1)).setCell ⟨gb143, 2, none⟩ (.int .i64 ((rd_T86 l1_0 x5_2).f2))).heap[gb140]? = some (.cells #[.slice (some ad142) l1_0.length c1_0, .slice A1_1 l1_1.length c1_1, .slice A1_2 l1_2.length c1_2] 55 (0, 0))) := ⟨by (with_reducible repeat (first | refine bN_ ?_ _ | refine bD_ ?_ | refine bA_ ?_ _)); refine blk_far ?_ NB140_143.out _; (with_reducible repeat (first | refine bN_ ?_ _ | refine bD_ ?_ | refine bA_ ?_ _)); refine blk_far ?_ NB140_143.out _; (with_reducible repeat (first | refine bN_ ?_ _ | refine bD_ ?_ | refine bA_ ?_ _)); refine blk_far ?_ NB140_143.out _; (with_reducible repeat (first | refine bN_ ?_ _ | refine bD_ ?_ | refine bA_ ?_ _)); exact BK140.out⟩
          have n2 : Aside0 ((((w34.setCell ⟨gb143, 0, none⟩ (.int .i64 ((rd_T86 l1_0 x5_2).f0))).setCell ⟨gb143, 1, none⟩ (.slice A142_1 ((rd_T86 l1_0 x5_2).f1).length c142_1)).setCell ⟨gb143, 2, none⟩ (.int .i64 ((rd_T86 l1_0 x5_2).f2))).heap[gb143]? = some (.cells #[.int .i64 ((rd_T86 l1_0 x5_2).f0), .slice A142_1 ((rd_T86 l1_0 x5_2).f1).length c142_1, .int .i64 ((rd_T86 l1_0 x5_2).f2)] 86 (0, 0))) := ⟨by (with_reducible repeat (first | refine bN_ ?_ _ | refine bD_ ?_ | refine bA_ ?_ _)); refine blk_put (cs := #[.int .i64 ((rd_T86 l1_0 x5_2).f0), .slice A142_1 ((rd_T86 l1_0 x5_2).f1).length c142_1, .int .i64 0]) ?_ 2 _ rfl; (with_reducible repeat (first | refine bN_ ?_ _ | refine bD_ ?_ | refine bA_ ?_ _)); refine blk_put (cs := #[.int .i64 ((rd_T86 l1_0 x5_2).f0), .slice none 0 0, .int .i64 0]) ?_ 1 _ rfl; (with_reducible repeat (first | refine bN_ ?_ _ | refine bD_ ?_ | refine bA_ ?_ _)); refine blk_put (cs := #[.int .i64 0, .slice none 0 0, .int .i64 0]) ?_ 0 _ rfl; (with_reducible repeat (first | refine bN_ ?_ _ | refine bD_ ?_ | refine bA_ ?_ _)); exact BK143.out⟩
          have n3 : Aside0 (Below w.heap.size w (((w34.setCell ⟨gb143, 0, none⟩ (.int .i64 ((rd_T86 l1_0 x5_2).f0))).setCell ⟨gb143, 1, none⟩ (.slice A142_1 ((rd_T86 l1_0 x5_2).f1).length c142_1)).setCell ⟨gb143, 2, none⟩ (.int .i64 ((rd_T86 l1_0 x5_2).f2)))) := ⟨gW_ HB.out⟩
          (try clear BK139)
          (try clear BK140)
          (try clear BK143)
          (try clear HB)
          generalize (((w34.setCell ⟨gb143, 0, none⟩ (.int .i64 ((rd_T86 l1_0 x5_2).f0))).setCell ⟨gb143, 1, none⟩ (.slice A142_1 ((rd_T86 l1_0 x5_2).f1).length c142_1)).setCell ⟨gb143, 2, none⟩ (.int .i64 ((rd_T86 l1_0 x5_2).f2))) = w47 at n0 n1 n2 n3 ⊢
          have BK139 := n0
          have BK140 := n1
          have BK143 := n2
          have HB := n3
          clear n0 n1 n2 n3
          have n0 := aM_ (blk_drew BK139.out)
          have n1 := aM_ (blk_drew BK140.out)
          have n2 := aM_ (blk_drew BK143.out)
          have n3 := aM_ (below_drew1 HB.out)
          clear BK139
          clear BK140
          clear BK143
          clear HB
          have BK139 := n0
          have BK140 := n1
          have BK143 := n2
          have HB := n3
          clear n0 n1 n2 n3
          refine start_ (n := 23) (S := fun w' => w'.cell? ⟨gb143, 0, none⟩ = some (.int .i64 ((rd_T86 l1_0 x5_2).f0)) ∧ w'.cell? ⟨gb143, 1, none⟩ = some (.slice A142_1 ((rd_T86 l1_0 x5_2).f1).length c142_1) ∧ w'.cell? ⟨gb143, 2, none⟩ = some (.int .i64 ((rd_T86 l1_0 x5_2).f2))) (ds := []) (mk_ 23 0) (by kernel_rfl) rfl rfl ⟨(blk_cell BK143.out 0).trans rfl, (blk_cell BK143.out 1).trans rfl, (blk_cell BK143.out 2).trans rfl⟩ (fun hHeld => ?_); refine with_tabW spec_SourceOk.tab7 spec_SourceOk.bits7 (fun HT_ HW_ => ?_)
          generalize w47.drew = w48 at BK139 BK140 BK143 HB hHeld ⊢
          refine pU_ 0 (some 48) (mk_ 23 1) ?_
          refine tK3_ 1 (some 49) (mk_ 23 3) ?_
          refine pU_ 2 (some 50) (mk_ 23 7) ?_
          refine pU_ 3 (some 51) (mk_ 23 15) ?_
          refine pU_ 4 (some 52) (mk_ 23 31) ?_
          refine pX_ 5 (some 53) (mk_ 23 63) ?_
          refine pX_ 6 (some 54) (mk_ 23 127) ?_
          refine pX_ 7 (some 55) (mk_ 23 255) ?_
          refine pX_ 8 (some 56) (mk_ 23 511) ?_
          refine pU_ 9 (some 57) (mk_ 23 1023) ?_
          refine pU_ 10 (some 58) (mk_ 23 2047) ?_
          refine pX_ 11 (some 59) (mk_ 23 4095) ?_
          refine pX_ 12 (some 60) (mk_ 23 8191) ?_
          refine pX_ 13 (some 61) (mk_ 23 16383) ?_
          refine pX_ 14 (some 62) (mk_ 23 32767) ?_
          refine pX_ 15 (some 63) (mk_ 23 65535) ?_
          refine pX_ 16 (some 64) (mk_ 23 131071) ?_
          refine pX_ 17 (some 65) (mk_ 23 262143) ?_
          refine pX_ 18 (some 66) (mk_ 23 524287) ?_
          refine pX_ 19 (some 67) (mk_ 23 1048575) ?_
          refine pX_ 20 (some 68) (mk_ 23 2097151) ?_
          refine pX_ 21 (some 69) (mk_ 23 4194303) ?_
          refine pU_ 22 (some 70) (mk_ 23 8388607) ?_
          refine done_ (done_of HT_.out (by kernel_rfl)) ?_
          try go_wp2
          go_meet
          case rel => exact ⟨_, (true), (by first | rfl | (simp; done) | (simp [*]; done)), H', ⟨by have := HJ2.out; have := HK2.out; first | omega | exact Nat.le_refl _⟩, ⟨rW_ BK139.out⟩, ⟨rW_ BK140.out⟩, ⟨rW_ BK143.out⟩, ⟨gW_ HB.out⟩⟩
        case rest =>
         clear HC31
         try clear c1
         try clear p1
         try clear q1
         try clear hx1
         try clear p2
         try clear c3
         try clear c4
         try clear p6
         try clear c14
         try clear p14
         try clear q14
         try clear hx14
         try clear c38
         try clear c38b0
         try clear c38b1
         try clear c40
         try clear c41
         try clear c41b0
         try clear hx145_0
         try clear p145
         try clear q145
         obtain ⟨kq, x70_30, rfl, HA, HJ30, BK139, BK140, BK143, HB⟩ := hcut
         cases kq with
         | zero => exact absurd HA.out (by simp [spec_SourceOk.j2])
         | succ kj30 =>
          have H := HA.out
          clear HA
          simp only [spec_SourceOk.j2] at H
          by_cases c49 : x70_30 = true
          ·subst c49
           have H1 : (some false) = some r := by rw [if_pos rfl] at H; exact H
           clear H
           have H := H1
           clear H1
           obtain rfl := Option.some.inj H
           go_wp2
           go_ret
           exact fI_ HB.out
          ·replace c49 := Bool.eq_false_iff.mpr c49
           subst c49
           have H1 : (spec_SourceOk.l0 kj30 (wrap64 (x5_2 + 1)) l0_0 l0_1 l1_0 l1_1 l1_2) = some r := by rw [if_neg (show ¬ (false = true) by decide)] at H; exact H
           clear H
           have H := H1
           clear H1
           have H' := aM_ H
           clear H
           go_wp2
           go_roundg kj30
           case measure => have := HJ2.out; have := HK2.out; have := HJ30.out; omega
           case rel => exact ⟨(wrap64 (x5_2 + 1)), (by first | rfl | (simp; done) | (simp [*]; done)), H', ⟨by have := HJ2.out; have := HK2.out; have := HJ30.out; omega⟩, ⟨rW_ BK139.out⟩, ⟨rW_ BK140.out⟩, ⟨gW_ HB.out⟩⟩
       ·rw [if_neg c30] at H
        exact absurd H (by simp)
      ·rw [if_neg c29] at H
       have c29b0 : decide (x5_2 < (l1_0.length : Int)) = false := decide_eq_false c29
       clear c29
       have H' := aM_ H
       clear H
       have hnb50 := NB140_139.out
       have hnc50 := NB139_140.out
       obtain ⟨hcz51_0, hcz51_1, hcz51_2, hfz51_0, hfz51_1, hfz51_2⟩ := bR3_ BK140.out
       go_wp2
       go_loopg [7] k2 (fun kq v7 w' => ∃ (x7_3 : Int), v7 = .int .i64 x7_3 ∧ Aside0 (spec_SourceOk.l1 kq x7_3 l0_0 l0_1 l1_0 l1_1 l1_2 = some r) ∧ Aside0 (kq ≤ k2) ∧ Aside0 (w'.heap[gb139]? = some (.cells #[(.slice A0_0 l0_0.length c0_0), (.slice A0_1 l0_1.length c0_1)] 49 (0, 0))) ∧ Aside0 (w'.heap[gb140]? = some (.cells #[(.slice A1_0 l1_0.length c1_0), (.slice A1_1 l1_1.length c1_1), (.slice A1_2 l1_2.length c1_2)] 55 (0, 0))) ∧ Aside0 (Below w.heap.size w w'))
       case atStart => exact ⟨(0), (by first | rfl | (simp; done) | (simp [*]; done)), H', ⟨Nat.le_refl _⟩, ⟨rW_ BK139.out⟩, ⟨rW_ BK140.out⟩, ⟨gW_ HB.out⟩⟩
       case round =>
        clear H'
        try clear c1
        try clear p1
        try clear q1
        try clear hx1
        try clear c2
        try clear p2
        try clear c3
        try clear c4
        try clear c5
        try clear p6
        try clear c14
        try clear p14
        try clear q14
        try clear hx14
        try clear c29
        try clear c29b0
        try clear c30
        try clear c38
        try clear c38b0
        try clear c38b1
        try clear c40
        try clear c41
        try clear c41b0
        try clear c49
        try clear c50
        try clear hcz51_0
        try clear hcz51_1
        try clear hcz51_2
        try clear hfz51_0
        try clear hfz51_1
        try clear hfz51_2
        try clear hx145_0
        try clear p1
        try clear p14
        try clear p145
        try clear p2
        try clear p6
        try clear q1
        try clear q14
        try clear q145
        obtain ⟨x7_3, rfl, HA, HK3, BK139, BK140, HB⟩ := hrel
        cases gk with
        | zero => exact absurd HA.out (by simp [spec_SourceOk.l1])
        | succ k3 =>
         have H := HA.out
         clear HA
         simp only [spec_SourceOk.l1] at H
         by_cases c52 : x7_3 < (l1_1.length : Int)
         ·rw [if_pos c52] at H
          have c52b0 : decide (x7_3 < (l1_1.length : Int)) = true := decide_eq_true c52
          clear c52
          by_cases c53 : 0 ≤ x7_3
          ·rw [if_pos c53] at H
           have c53b0 : decide (0 ≤ x7_3) = true := decide_eq_true c53
           clear c53
           replace H := Option.bind_eq_some_iff.mp H
           obtain ⟨t148, A540, H⟩ := H
           replace H : (if t148 = true then (if x7_3 < (l0_0.length : Int) then (if ((rd_T91 l1_1 x7_3).f0) = (rd l0_0 x7_3) then (spec_SourceOk.l1 k3 (wrap64 (x7_3 + 1)) l0_0 l0_1 l1_0 l1_1 l1_2) else (some false)) else (none)) else (some false)) = some r := H
           have A54 := aM_ A540
           clear A540
           by_cases c55 : t148 = true
           ·subst c55
            have H1 : (if x7_3 < (l0_0.length : Int) then (if ((rd_T91 l1_1 x7_3).f0) = (rd l0_0 x7_3) then (spec_SourceOk.l1 k3 (wrap64 (x7_3 + 1)) l0_0 l0_1 l1_0 l1_1 l1_2) else (some false)) else (none)) = some r := by rw [if_pos rfl] at H; exact H
            clear H
            have H := H1
            clear H1
            by_cases c56 : x7_3 < (l0_0.length : Int)
            ·rw [if_pos c56] at H
             have c56b0 : decide (x7_3 < (l0_0.length : Int)) = true := decide_eq_true c56
             clear c56
             by_cases c57 : ((rd_T91 l1_1 x7_3).f0) = (rd l0_0 x7_3)
             ·rw [if_pos c57] at H
              have c57b0 : (((rd_T91 l1_1 x7_3).f0) == (rd l0_0 x7_3)) = true := beq_iff_eq.mpr c57
              have c57b1 : (((rd_T91 l1_1 x7_3).f0) != (rd l0_0 x7_3)) = false := bne_eq_false_iff_eq.mpr c57
              clear c57
              have H' := aM_ H
              clear H
              have hnb58 := NB140_139.out
              have hnc58 := NB139_140.out
              obtain ⟨hcz59_0, hcz59_1, hcz59_2, hfz59_0, hfz59_1, hfz59_2⟩ := bR3_ BK140.out
              try go_wp2
              have n0 := aM_ (blk_drew BK139.out)
              have n1 := aM_ (blk_drew BK140.out)
              have n2 := aM_ (below_drew1 HB.out)
              clear BK139
              clear BK140
              clear HB
              have BK139 := n0
              have BK140 := n1
              have HB := n2
              clear n0 n1 n2
              have p147 : 0 ≤ (x7_3 : Int) := of_decide_eq_true (by first | (with_reducible assumption) | assumption)
              have q147 : x7_3 < (l1_1.length : Int) := of_decide_eq_true (by first | (with_reducible assumption) | assumption)
              obtain ⟨ad147, A147_1, c147_1, e147, hx147_0, hx147_1, hx147_2, hl147_1, hi147_1⟩ := at_T91 HR1_1.out x7_3 p147 q147
              have hw147_2 := hx147_2
              have hw147_1 := hx147_1
              have hw147_0 := hx147_0
              cases e147
              replace hx147_0 := cB_ HB.out hx147_0
              replace hx147_1 := cB_ HB.out hx147_1
              replace hx147_2 := cB_ HB.out hx147_2
              have HR147_1 := aM_ hi147_1
              have HC147_1 := aM_ hl147_1
              clear hi147_1 hl147_1
              replace p147 := eq_true p147
              replace q147 := eq_true q147
              have p149 : 0 ≤ (x7_3 : Int) := of_decide_eq_true (by first | (with_reducible assumption) | assumption)
              have q149 : x7_3 < (l1_1.length : Int) := of_decide_eq_true (by first | (with_reducible assumption) | assumption)
              obtain ⟨ad149, A149_1, c149_1, e149, hx149_0, hx149_1, hx149_2, hl149_1, hi149_1⟩ := at_T91 HR1_1.out x7_3 p149 q149
              have hw149_2 := hx149_2
              have hw149_1 := hx149_1
              have hw149_0 := hx149_0
              obtain rfl : ad147 = ad149 := (by injection e149)
              replace hx149_0 := cB_ HB.out hx149_0
              replace hx149_1 := cB_ HB.out hx149_1
              replace hx149_2 := cB_ HB.out hx149_2
              have HR149_1 := aM_ hi149_1
              have HC149_1 := aM_ hl149_1
              clear hi149_1 hl149_1
              replace p149 := eq_true p149
              replace q149 := eq_true q149
              have p150 : 0 ≤ (x7_3 : Int) := of_decide_eq_true (by first | (with_reducible assumption) | assumption)
              have q150 : x7_3 < (l0_0.length : Int) := of_decide_eq_true (by first | (with_reducible assumption) | assumption)
              obtain ⟨ad150, e150, hx150_0⟩ := Kd.at_int HR0_0.out x7_3 p150 q150
              have hw150_0 := hx150_0
              cases e150
              replace hx150_0 := cB_ HB.out hx150_0
              replace p150 := eq_true p150
              replace q150 := eq_true q150
              refine start_ (n := 21) (S := fun w' => w'.cell? ⟨gb140, 0, none⟩ = some (.slice A1_0 l1_0.length c1_0) ∧ w'.cell? ⟨gb140, 1, none⟩ = some (.slice (some ad147) l1_1.length c1_1) ∧ w'.cell? ⟨gb140, 2, none⟩ = some (.slice A1_2 l1_2.length c1_2) ∧ w'.cell? ⟨gb139, 0, none⟩ = some (.slice (some ad150) l0_0.length c0_0) ∧ w'.cell? ⟨gb139, 1, none⟩ = some (.slice A0_1 l0_1.length c0_1) ∧ w'.cell? (ad147.add ((x7_3).toNat * 3)) = some (.int .i64 ((rd_T91 l1_1 x7_3).f0)) ∧ w'.cell? ⟨(ad147.add ((x7_3).toNat * 3)).block, (ad147.add ((x7_3).toNat * 3)).off + 1, none⟩ = some (.slice A147_1 ((rd_T91 l1_1 x7_3).f1).length c147_1) ∧ w'.cell? ⟨(ad147.add ((x7_3).toNat * 3)).block, (ad147.add ((x7_3).toNat * 3)).off + 2, none⟩ = some (.bool ((rd_T91 l1_1 x7_3).f2)) ∧ w'.cell? (ad147.add ((x7_3).toNat * 3)) = some (.int .i64 ((rd_T91 l1_1 x7_3).f0)) ∧ w'.cell? ⟨(ad147.add ((x7_3).toNat * 3)).block, (ad147.add ((x7_3).toNat * 3)).off + 1, none⟩ = some (.slice A149_1 ((rd_T91 l1_1 x7_3).f1).length c149_1) ∧ w'.cell? ⟨(ad147.add ((x7_3).toNat * 3)).block, (ad147.add ((x7_3).toNat * 3)).off + 2, none⟩ = some (.bool ((rd_T91 l1_1 x7_3).f2)) ∧ w'.cell? (ad150.add (x7_3).toNat) = some (.int .i64 (rd l0_0 x7_3))) (ds := []) (mk_ 21 0) (by kernel_rfl) rfl rfl ⟨(blk_cell BK140.out 0).trans rfl, (blk_cell BK140.out 1).trans rfl, (blk_cell BK140.out 2).trans rfl, (blk_cell BK139.out 0).trans rfl, (blk_cell BK139.out 1).trans rfl, (cB_ HB.out hw147_0 :), (cB_ HB.out hw147_1 :), (cB_ HB.out hw147_2 :), (cB_ HB.out hw149_0 :), (cB_ HB.out hw149_1 :), (cB_ HB.out hw149_2 :), (cB_ HB.out hw150_0 :)⟩ (fun hHeld => ?_); refine with_tabW spec_SourceOk.tab12 spec_SourceOk.bits12 (fun HT_ HW_ => ?_)
              generalize wr.drew = w60 at BK139 BK140 HB HR147_1 HR149_1 hx147_0 hx147_1 hx147_2 hx149_0 hx149_1 hx149_2 hx150_0 hHeld ⊢
              refine pU_ 0 (some 78) (mk_ 21 1) ?_
              refine pU_ 2 (some 80) (mk_ 21 5) ?_
              refine tK12_ 1 (some 79) (mk_ 21 7) ?_
              refine pU_ 3 (some 81) (mk_ 21 15) ?_
              refine tK12_ 4 (some 82) (mk_ 21 31) ?_
              refine oN_ 5 (some 83) (mk_ 21 63) (fun K hK => ?_)
              refine gO_ Try.func42 #[.agg #[.int .i64 ((rd_T91 l1_1 x7_3).f0), .slice A147_1 ((rd_T91 l1_1 x7_3).f1).length c147_1, .bool ((rd_T91 l1_1 x7_3).f2)]] ?_
              with_reducible refine (spec_ChanOk.calls ((rd_T91 l1_1 x7_3).f0) _ _ ((rd_T91 l1_1 x7_3).f1) ((rd_T91 l1_1 x7_3).f2) true _ ?side1 ?side2 A54.out).mono ?_
              (case side1 => exact cS_ (Kd.C_below HR147_1.out HB.out))
              (case side2 => exact HC147_1.out)
              rintro e w61 ⟨rfl, hb⟩
              refine ⟨_, rfl, ?_⟩
              have n0 := aM_ (nB_ BK139.out hb)
              have n1 := aM_ (nB_ BK140.out hb)
              have n2 := aM_ (sT_ HB.out hb)
              clear BK139
              clear BK140
              clear HB
              have BK139 := n0
              have BK140 := n1
              have HB := n2
              clear n0 n1 n2
              (try clear hb)
              (try clear hb2)
              (try clear hk)
              (try clear hi)
              refine hK.out _ _ ⟨(blk_cell BK140.out 0).trans rfl, (blk_cell BK140.out 1).trans rfl, (blk_cell BK140.out 2).trans rfl, (blk_cell BK139.out 0).trans rfl, (blk_cell BK139.out 1).trans rfl, (cB_ HB.out hw147_0 :), (cB_ HB.out hw147_1 :), (cB_ HB.out hw147_2 :), (cB_ HB.out hw149_0 :), (cB_ HB.out hw149_1 :), (cB_ HB.out hw149_2 :), (cB_ HB.out hw150_0 :)⟩ (fun hHeld => ?_)
              clear hK K
              refine norm_ (a' := ?_) ?_ ?_
              rotate_left
              ·show Act.put _ (some 83) _ = _
               simp only [pt_, pn_, sI_, s0_, s1_, i64_w, i32_w]
               rfl
              refine pU_ 6 (some 84) (mk_ 21 127) ?_
              refine pU_ 7 (some 85) (mk_ 21 255) ?_
              refine pU_ 8 (some 86) (mk_ 21 511) ?_
              refine pU_ 10 (some 88) (mk_ 21 1535) ?_
              refine pU_ 14 (some 92) (mk_ 21 17919) ?_
              refine pU_ 16 (some 94) (mk_ 21 83455) ?_
              refine tK12_ 9 (some 87) (mk_ 21 83967) ?_
              refine pU_ 11 (some 89) (mk_ 21 86015) ?_
              refine pU_ 12 (some 90) (mk_ 21 90111) ?_
              refine tK12_ 13 (some 91) (mk_ 21 98303) ?_
              refine tK12_ 15 (some 93) (mk_ 21 131071) ?_
              refine pU_ 17 (some 95) (mk_ 21 262143) ?_
              refine tK12_ 18 (some 96) (mk_ 21 524287) ?_
              refine pU_ 19 (some 97) (mk_ 21 1048575) ?_
              refine pU_ 20 (some 98) (mk_ 21 2097151) ?_
              refine done_ (done_of HT_.out (by kernel_rfl)) ?_
              try go_wp2
              go_roundg k3
              case measure => have := HJ2.out; have := HK2.out; have := HK3.out; omega
              case rel => exact ⟨(wrap64 (x7_3 + 1)), (by first | rfl | (simp; done) | (simp [*]; done)), H', ⟨by have := HJ2.out; have := HK2.out; have := HK3.out; omega⟩, ⟨rW_ BK139.out⟩, ⟨rW_ BK140.out⟩, ⟨gW_ HB.out⟩⟩
             ·rw [if_neg c57] at H
              have c57b0 : (((rd_T91 l1_1 x7_3).f0) == (rd l0_0 x7_3)) = false := beq_eq_false_iff_ne.mpr c57
              have c57b1 : (((rd_T91 l1_1 x7_3).f0) != (rd l0_0 x7_3)) = true := bne_iff_ne.mpr c57
              obtain rfl := Option.some.inj H
              have hnb62 := NB140_139.out
              have hnc62 := NB139_140.out
              obtain ⟨hcz63_0, hcz63_1, hcz63_2, hfz63_0, hfz63_1, hfz63_2⟩ := bR3_ BK140.out
              try go_wp2
              have n0 := aM_ (blk_drew BK139.out)
              have n1 := aM_ (blk_drew BK140.out)
              have n2 := aM_ (below_drew1 HB.out)
              clear BK139
              clear BK140
              clear HB
              have BK139 := n0
              have BK140 := n1
              have HB := n2
              clear n0 n1 n2
              have p147 : 0 ≤ (x7_3 : Int) := of_decide_eq_true (by first | (with_reducible assumption) | assumption)
              have q147 : x7_3 < (l1_1.length : Int) := of_decide_eq_true (by first | (with_reducible assumption) | assumption)
              obtain ⟨ad147, A147_1, c147_1, e147, hx147_0, hx147_1, hx147_2, hl147_1, hi147_1⟩ := at_T91 HR1_1.out x7_3 p147 q147
              have hw147_2 := hx147_2
              have hw147_1 := hx147_1
              have hw147_0 := hx147_0
              cases e147
              replace hx147_0 := cB_ HB.out hx147_0
              replace hx147_1 := cB_ HB.out hx147_1
              replace hx147_2 := cB_ HB.out hx147_2
              have HR147_1 := aM_ hi147_1
              have HC147_1 := aM_ hl147_1
              clear hi147_1 hl147_1
              replace p147 := eq_true p147
              replace q147 := eq_true q147
              have p149 : 0 ≤ (x7_3 : Int) := of_decide_eq_true (by first | (with_reducible assumption) | assumption)
              have q149 : x7_3 < (l1_1.length : Int) := of_decide_eq_true (by first | (with_reducible assumption) | assumption)
              obtain ⟨ad149, A149_1, c149_1, e149, hx149_0, hx149_1, hx149_2, hl149_1, hi149_1⟩ := at_T91 HR1_1.out x7_3 p149 q149
              have hw149_2 := hx149_2
              have hw149_1 := hx149_1
              have hw149_0 := hx149_0
              obtain rfl : ad147 = ad149 := (by injection e149)
              replace hx149_0 := cB_ HB.out hx149_0
              replace hx149_1 := cB_ HB.out hx149_1
              replace hx149_2 := cB_ HB.out hx149_2
              have HR149_1 := aM_ hi149_1
              have HC149_1 := aM_ hl149_1
              clear hi149_1 hl149_1
              replace p149 := eq_true p149
              replace q149 := eq_true q149
              have p150 : 0 ≤ (x7_3 : Int) := of_decide_eq_true (by first | (with_reducible assumption) | assumption)
              have q150 : x7_3 < (l0_0.length : Int) := of_decide_eq_true (by first | (with_reducible assumption) | assumption)
              obtain ⟨ad150, e150, hx150_0⟩ := Kd.at_int HR0_0.out x7_3 p150 q150
              have hw150_0 := hx150_0
              cases e150
              replace hx150_0 := cB_ HB.out hx150_0
              replace p150 := eq_true p150
              replace q150 := eq_true q150
              refine start_ (n := 21) (S := fun w' => w'.cell? ⟨gb140, 0, none⟩ = some (.slice A1_0 l1_0.length c1_0) ∧ w'.cell? ⟨gb140, 1, none⟩ = some (.slice (some ad147) l1_1.length c1_1) ∧ w'.cell? ⟨gb140, 2, none⟩ = some (.slice A1_2 l1_2.length c1_2) ∧ w'.cell? ⟨gb139, 0, none⟩ = some (.slice (some ad150) l0_0.length c0_0) ∧ w'.cell? ⟨gb139, 1, none⟩ = some (.slice A0_1 l0_1.length c0_1) ∧ w'.cell? (ad147.add ((x7_3).toNat * 3)) = some (.int .i64 ((rd_T91 l1_1 x7_3).f0)) ∧ w'.cell? ⟨(ad147.add ((x7_3).toNat * 3)).block, (ad147.add ((x7_3).toNat * 3)).off + 1, none⟩ = some (.slice A147_1 ((rd_T91 l1_1 x7_3).f1).length c147_1) ∧ w'.cell? ⟨(ad147.add ((x7_3).toNat * 3)).block, (ad147.add ((x7_3).toNat * 3)).off + 2, none⟩ = some (.bool ((rd_T91 l1_1 x7_3).f2)) ∧ w'.cell? (ad147.add ((x7_3).toNat * 3)) = some (.int .i64 ((rd_T91 l1_1 x7_3).f0)) ∧ w'.cell? ⟨(ad147.add ((x7_3).toNat * 3)).block, (ad147.add ((x7_3).toNat * 3)).off + 1, none⟩ = some (.slice A149_1 ((rd_T91 l1_1 x7_3).f1).length c149_1) ∧ w'.cell? ⟨(ad147.add ((x7_3).toNat * 3)).block, (ad147.add ((x7_3).toNat * 3)).off + 2, none⟩ = some (.bool ((rd_T91 l1_1 x7_3).f2)) ∧ w'.cell? (ad150.add (x7_3).toNat) = some (.int .i64 (rd l0_0 x7_3))) (ds := []) (mk_ 21 0) (by kernel_rfl) rfl rfl ⟨(blk_cell BK140.out 0).trans rfl, (blk_cell BK140.out 1).trans rfl, (blk_cell BK140.out 2).trans rfl, (blk_cell BK139.out 0).trans rfl, (blk_cell BK139.out 1).trans rfl, (cB_ HB.out hw147_0 :), (cB_ HB.out hw147_1 :), (cB_ HB.out hw147_2 :), (cB_ HB.out hw149_0 :), (cB_ HB.out hw149_1 :), (cB_ HB.out hw149_2 :), (cB_ HB.out hw150_0 :)⟩ (fun hHeld => ?_); refine with_tabW spec_SourceOk.tab12 spec_SourceOk.bits12 (fun HT_ HW_ => ?_)
              generalize wr.drew = w64 at BK139 BK140 HB HR147_1 HR149_1 hx147_0 hx147_1 hx147_2 hx149_0 hx149_1 hx149_2 hx150_0 hHeld ⊢
              refine pU_ 0 (some 78) (mk_ 21 1) ?_
              refine pU_ 2 (some 80) (mk_ 21 5) ?_
              refine tK12_ 1 (some 79) (mk_ 21 7) ?_
              refine pU_ 3 (some 81) (mk_ 21 15) ?_
              refine tK12_ 4 (some 82) (mk_ 21 31) ?_
              refine oN_ 5 (some 83) (mk_ 21 63) (fun K hK => ?_)
              refine gO_ Try.func42 #[.agg #[.int .i64 ((rd_T91 l1_1 x7_3).f0), .slice A147_1 ((rd_T91 l1_1 x7_3).f1).length c147_1, .bool ((rd_T91 l1_1 x7_3).f2)]] ?_
              with_reducible refine (spec_ChanOk.calls ((rd_T91 l1_1 x7_3).f0) _ _ ((rd_T91 l1_1 x7_3).f1) ((rd_T91 l1_1 x7_3).f2) true _ ?side1 ?side2 A54.out).mono ?_
              (case side1 => exact cS_ (Kd.C_below HR147_1.out HB.out))
              (case side2 => exact HC147_1.out)
              rintro e w65 ⟨rfl, hb⟩
              refine ⟨_, rfl, ?_⟩
              have n0 := aM_ (nB_ BK139.out hb)
              have n1 := aM_ (nB_ BK140.out hb)
              have n2 := aM_ (sT_ HB.out hb)
              clear BK139
              clear BK140
              clear HB
              have BK139 := n0
              have BK140 := n1
              have HB := n2
              clear n0 n1 n2
              (try clear hb)
              (try clear hb2)
              (try clear hk)
              (try clear hi)
              refine hK.out _ _ ⟨(blk_cell BK140.out 0).trans rfl, (blk_cell BK140.out 1).trans rfl, (blk_cell BK140.out 2).trans rfl, (blk_cell BK139.out 0).trans rfl, (blk_cell BK139.out 1).trans rfl, (cB_ HB.out hw147_0 :), (cB_ HB.out hw147_1 :), (cB_ HB.out hw147_2 :), (cB_ HB.out hw149_0 :), (cB_ HB.out hw149_1 :), (cB_ HB.out hw149_2 :), (cB_ HB.out hw150_0 :)⟩ (fun hHeld => ?_)
              clear hK K
              refine norm_ (a' := ?_) ?_ ?_
              rotate_left
              ·show Act.put _ (some 83) _ = _
               simp only [pt_, pn_, sI_, s0_, s1_, i64_w, i32_w]
               rfl
              refine pU_ 6 (some 84) (mk_ 21 127) ?_
              refine pU_ 7 (some 85) (mk_ 21 255) ?_
              refine pU_ 8 (some 86) (mk_ 21 511) ?_
              refine pU_ 10 (some 88) (mk_ 21 1535) ?_
              refine pU_ 14 (some 92) (mk_ 21 17919) ?_
              refine pU_ 16 (some 94) (mk_ 21 83455) ?_
              refine tK12_ 9 (some 87) (mk_ 21 83967) ?_
              refine pU_ 11 (some 89) (mk_ 21 86015) ?_
              refine pU_ 12 (some 90) (mk_ 21 90111) ?_
              refine tK12_ 13 (some 91) (mk_ 21 98303) ?_
              refine tK12_ 15 (some 93) (mk_ 21 131071) ?_
              refine pU_ 17 (some 95) (mk_ 21 262143) ?_
              refine tK12_ 18 (some 96) (mk_ 21 524287) ?_
              refine pU_ 19 (some 97) (mk_ 21 1048575) ?_
              refine pU_ 20 (some 98) (mk_ 21 2097151) ?_
              refine done_ (done_of HT_.out (by kernel_rfl)) ?_
              try go_wp2
              go_ret
              exact fI_ HB.out
            ·rw [if_neg c56] at H
             exact absurd H (by simp)
           ·replace c55 := Bool.eq_false_iff.mpr c55
            subst c55
            have H1 : (some false) = some r := by rw [if_neg (show ¬ (false = true) by decide)] at H; exact H
            clear H
            have H := H1
            clear H1
            obtain rfl := Option.some.inj H
            have hnb66 := NB140_139.out
            have hnc66 := NB139_140.out
            obtain ⟨hcz67_0, hcz67_1, hcz67_2, hfz67_0, hfz67_1, hfz67_2⟩ := bR3_ BK140.out
            try go_wp2
            have n0 := aM_ (blk_drew BK139.out)
            have n1 := aM_ (blk_drew BK140.out)
            have n2 := aM_ (below_drew1 HB.out)
            clear BK139
            clear BK140
            clear HB
            have BK139 := n0
            have BK140 := n1
            have HB := n2
            clear n0 n1 n2
            have p147 : 0 ≤ (x7_3 : Int) := of_decide_eq_true (by first | (with_reducible assumption) | assumption)
            have q147 : x7_3 < (l1_1.length : Int) := of_decide_eq_true (by first | (with_reducible assumption) | assumption)
            obtain ⟨ad147, A147_1, c147_1, e147, hx147_0, hx147_1, hx147_2, hl147_1, hi147_1⟩ := at_T91 HR1_1.out x7_3 p147 q147
            have hw147_2 := hx147_2
            have hw147_1 := hx147_1
            have hw147_0 := hx147_0
            cases e147
            replace hx147_0 := cB_ HB.out hx147_0
            replace hx147_1 := cB_ HB.out hx147_1
            replace hx147_2 := cB_ HB.out hx147_2
            have HR147_1 := aM_ hi147_1
            have HC147_1 := aM_ hl147_1
            clear hi147_1 hl147_1
            replace p147 := eq_true p147
            replace q147 := eq_true q147
            refine start_ (n := 21) (S := fun w' => w'.cell? ⟨gb140, 0, none⟩ = some (.slice A1_0 l1_0.length c1_0) ∧ w'.cell? ⟨gb140, 1, none⟩ = some (.slice (some ad147) l1_1.length c1_1) ∧ w'.cell? ⟨gb140, 2, none⟩ = some (.slice A1_2 l1_2.length c1_2) ∧ w'.cell? (ad147.add ((x7_3).toNat * 3)) = some (.int .i64 ((rd_T91 l1_1 x7_3).f0)) ∧ w'.cell? ⟨(ad147.add ((x7_3).toNat * 3)).block, (ad147.add ((x7_3).toNat * 3)).off + 1, none⟩ = some (.slice A147_1 ((rd_T91 l1_1 x7_3).f1).length c147_1) ∧ w'.cell? ⟨(ad147.add ((x7_3).toNat * 3)).block, (ad147.add ((x7_3).toNat * 3)).off + 2, none⟩ = some (.bool ((rd_T91 l1_1 x7_3).f2))) (ds := []) (mk_ 21 0) (by kernel_rfl) rfl rfl ⟨(blk_cell BK140.out 0).trans rfl, (blk_cell BK140.out 1).trans rfl, (blk_cell BK140.out 2).trans rfl, (cB_ HB.out hw147_0 :), (cB_ HB.out hw147_1 :), (cB_ HB.out hw147_2 :)⟩ (fun hHeld => ?_); refine with_tabW spec_SourceOk.tab12 spec_SourceOk.bits12 (fun HT_ HW_ => ?_)
            generalize wr.drew = w68 at BK139 BK140 HB HR147_1 hx147_0 hx147_1 hx147_2 hHeld ⊢
            refine pU_ 0 (some 78) (mk_ 21 1) ?_
            refine pU_ 2 (some 80) (mk_ 21 5) ?_
            refine tK6_ 1 (some 79) (mk_ 21 7) ?_
            refine pU_ 3 (some 81) (mk_ 21 15) ?_
            refine tK6_ 4 (some 82) (mk_ 21 31) ?_
            refine oN_ 5 (some 83) (mk_ 21 63) (fun K hK => ?_)
            refine gO_ Try.func42 #[.agg #[.int .i64 ((rd_T91 l1_1 x7_3).f0), .slice A147_1 ((rd_T91 l1_1 x7_3).f1).length c147_1, .bool ((rd_T91 l1_1 x7_3).f2)]] ?_
            with_reducible refine (spec_ChanOk.calls ((rd_T91 l1_1 x7_3).f0) _ _ ((rd_T91 l1_1 x7_3).f1) ((rd_T91 l1_1 x7_3).f2) false _ ?side1 ?side2 A54.out).mono ?_
            (case side1 => exact cS_ (Kd.C_below HR147_1.out HB.out))
            (case side2 => exact HC147_1.out)
            rintro e w69 ⟨rfl, hb⟩
            refine ⟨_, rfl, ?_⟩
            have n0 := aM_ (nB_ BK139.out hb)
            have n1 := aM_ (nB_ BK140.out hb)
            have n2 := aM_ (sT_ HB.out hb)
            clear BK139
            clear BK140
            clear HB
            have BK139 := n0
            have BK140 := n1
            have HB := n2
            clear n0 n1 n2
            (try clear hb)
            (try clear hb2)
            (try clear hk)
            (try clear hi)
            refine hK.out _ _ ⟨(blk_cell BK140.out 0).trans rfl, (blk_cell BK140.out 1).trans rfl, (blk_cell BK140.out 2).trans rfl, (cB_ HB.out hw147_0 :), (cB_ HB.out hw147_1 :), (cB_ HB.out hw147_2 :)⟩ (fun hHeld => ?_)
            clear hK K
            refine norm_ (a' := ?_) ?_ ?_
            rotate_left
            ·show Act.put _ (some 83) _ = _
             simp only [pt_, pn_, sI_, s0_, s1_, i64_w, i32_w]
             rfl
            refine pU_ 6 (some 84) (mk_ 21 127) ?_
            refine pU_ 7 (some 85) (mk_ 21 255) ?_
            refine pX_ 8 (some 86) (mk_ 21 511) ?_
            refine pX_ 9 (some 87) (mk_ 21 1023) ?_
            refine pX_ 10 (some 88) (mk_ 21 2047) ?_
            refine pX_ 11 (some 89) (mk_ 21 4095) ?_
            refine pX_ 12 (some 90) (mk_ 21 8191) ?_
            refine pX_ 13 (some 91) (mk_ 21 16383) ?_
            refine pX_ 14 (some 92) (mk_ 21 32767) ?_
            refine pX_ 15 (some 93) (mk_ 21 65535) ?_
            refine pX_ 16 (some 94) (mk_ 21 131071) ?_
            refine pX_ 17 (some 95) (mk_ 21 262143) ?_
            refine pX_ 18 (some 96) (mk_ 21 524287) ?_
            refine pX_ 19 (some 97) (mk_ 21 1048575) ?_
            refine pU_ 20 (some 98) (mk_ 21 2097151) ?_
            refine done_ (done_of HT_.out (by kernel_rfl)) ?_
            try go_wp2
            go_ret
            exact fI_ HB.out
          ·rw [if_neg c53] at H
           exact absurd H (by simp)
         ·rw [if_neg c52] at H
          have c52b0 : decide (x7_3 < (l1_1.length : Int)) = false := decide_eq_false c52
          clear c52
          have H' := aM_ H
          clear H
          have hnb70 := NB140_139.out
          have hnc70 := NB139_140.out
          obtain ⟨hcz71_0, hcz71_1, hcz71_2, hfz71_0, hfz71_1, hfz71_2⟩ := bR3_ BK140.out
          go_wp2
          go_loopg [8] k3 (fun kq v8 w' => ∃ (x8_4 : Int), v8 = .int .i64 x8_4 ∧ Aside0 (spec_SourceOk.l2 kq x8_4 l1_0 l1_1 l1_2 = some r) ∧ Aside0 (kq ≤ k3) ∧ Aside0 (w'.heap[gb139]? = some (.cells #[(.slice A0_0 l0_0.length c0_0), (.slice A0_1 l0_1.length c0_1)] 49 (0, 0))) ∧ Aside0 (w'.heap[gb140]? = some (.cells #[(.slice A1_0 l1_0.length c1_0), (.slice A1_1 l1_1.length c1_1), (.slice A1_2 l1_2.length c1_2)] 55 (0, 0))) ∧ Aside0 (Below w.heap.size w w'))
          case atStart => exact ⟨(0), (by first | rfl | (simp; done) | (simp [*]; done)), H', ⟨Nat.le_refl _⟩, ⟨rW_ BK139.out⟩, ⟨rW_ BK140.out⟩, ⟨gW_ HB.out⟩⟩
          case round =>
           clear H'
           try clear c1
           try clear p1
           try clear q1
           try clear hx1
           try clear p2
           try clear c4
           try clear c5
           try clear c6
           try clear p6
           try clear c7
           try clear c14
           try clear p14
           try clear q14
           try clear hx14
           try clear p15
           try clear q15
           try clear hx15
           try clear c42
           try clear c52
           try clear c52b0
           try clear c53
           try clear c55
           try clear c56
           try clear c57
           try clear c57b0
           try clear c57b1
           try clear c62
           try clear p64
           try clear c66
           try clear c70
           try clear hcz63_0
           try clear hcz63_1
           try clear hcz63_2
           try clear hcz67_0
           try clear hcz67_1
           try clear hcz67_2
           try clear hcz71_0
           try clear hcz71_1
           try clear hcz71_2
           try clear hfz63_0
           try clear hfz63_1
           try clear hfz63_2
           try clear hfz67_0
           try clear hfz67_1
           try clear hfz67_2
           try clear hfz71_0
           try clear hfz71_1
           try clear hfz71_2
           try clear hx147_0
           try clear hx147_1
           try clear hx147_2
           try clear hx149_0
           try clear hx149_1
           try clear hx149_2
           try clear hx150_0
           try clear p147
           try clear p149
           try clear p150
           try clear q147
           try clear q149
           try clear q150
           obtain ⟨x8_4, rfl, HA, HK4, BK139, BK140, HB⟩ := hrel
           cases gk with
           | zero => exact absurd HA.out (by simp [spec_SourceOk.l2])
           | succ k4 =>
            have H := HA.out
            clear HA
            simp only [spec_SourceOk.l2] at H
            by_cases c72 : x8_4 < (l1_2.length : Int)
            ·rw [if_pos c72] at H
             have c72b0 : decide (x8_4 < (l1_2.length : Int)) = true := decide_eq_true c72
             clear c72
             by_cases c73 : 0 ≤ x8_4
             ·rw [if_pos c73] at H
              have c73b0 : decide (0 ≤ x8_4) = true := decide_eq_true c73
              clear c73
              replace H := Option.bind_eq_some_iff.mp H
              obtain ⟨t152, A740, H⟩ := H
              replace H : (if t152 = true then (spec_SourceOk.l2 k4 (wrap64 (x8_4 + 1)) l1_0 l1_1 l1_2) else (some false)) = some r := H
              have A74 := aM_ A740
              clear A740
              by_cases c75 : t152 = true
              ·subst c75
               have H1 : (spec_SourceOk.l2 k4 (wrap64 (x8_4 + 1)) l1_0 l1_1 l1_2) = some r := by rw [if_pos rfl] at H; exact H
               clear H
               have H := H1
               clear H1
               have H' := aM_ H
               clear H
               have hnb76 := NB140_139.out
               have hnc76 := NB139_140.out
               obtain ⟨hcz77_0, hcz77_1, hcz77_2, hfz77_0, hfz77_1, hfz77_2⟩ := bR3_ BK140.out
               try go_wp2
               have n0 := aM_ (blk_drew BK139.out)
               have n1 := aM_ (blk_drew BK140.out)
               have n2 := aM_ (below_drew1 HB.out)
               clear BK139
               clear BK140
               clear HB
               have BK139 := n0
               have BK140 := n1
               have HB := n2
               clear n0 n1 n2
               have p151 : 0 ≤ (x8_4 : Int) := of_decide_eq_true (by first | (with_reducible assumption) | assumption)
               have q151 : x8_4 < (l1_2.length : Int) := of_decide_eq_true (by first | (with_reducible assumption) | assumption)
               obtain ⟨ad151, e151, hx151_0, hx151_1⟩ := at_T93 HR1_2.out x8_4 p151 q151
               have hw151_1 := hx151_1
               have hw151_0 := hx151_0
               cases e151
               replace hx151_0 := cB_ HB.out hx151_0
               replace hx151_1 := cB_ HB.out hx151_1
               replace p151 := eq_true p151
               replace q151 := eq_true q151
               refine start_ (n := 12) (S := fun w' => w'.cell? ⟨gb140, 0, none⟩ = some (.slice A1_0 l1_0.length c1_0) ∧ w'.cell? ⟨gb140, 1, none⟩ = some (.slice A1_1 l1_1.length c1_1) ∧ w'.cell? ⟨gb140, 2, none⟩ = some (.slice (some ad151) l1_2.length c1_2) ∧ w'.cell? (ad151.add ((x8_4).toNat * 2)) = some (.int .i64 ((rd_T93 l1_2 x8_4).f0)) ∧ w'.cell? ⟨(ad151.add ((x8_4).toNat * 2)).block, (ad151.add ((x8_4).toNat * 2)).off + 1, none⟩ = some (.int .i64 ((rd_T93 l1_2 x8_4).f1))) (ds := []) (mk_ 12 0) (by kernel_rfl) rfl rfl ⟨(blk_cell BK140.out 0).trans rfl, (blk_cell BK140.out 1).trans rfl, (blk_cell BK140.out 2).trans rfl, (cB_ HB.out hw151_0 :), (cB_ HB.out hw151_1 :)⟩ (fun hHeld => ?_); refine with_tabW spec_SourceOk.tab17 spec_SourceOk.bits17 (fun HT_ HW_ => ?_)
               generalize wr.drew = w78 at BK139 BK140 HB hx151_0 hx151_1 hHeld ⊢
               refine pU_ 0 (some 106) (mk_ 12 1) ?_
               refine pU_ 2 (some 108) (mk_ 12 5) ?_
               refine pU_ 6 (some 112) (mk_ 12 69) ?_
               refine tK5_ 1 (some 107) (mk_ 12 71) ?_
               refine pU_ 3 (some 109) (mk_ 12 79) ?_
               refine pU_ 4 (some 110) (mk_ 12 95) ?_
               refine tK5_ 5 (some 111) (mk_ 12 127) ?_
               refine tK5_ 7 (some 113) (mk_ 12 255) ?_
               refine pU_ 8 (some 114) (mk_ 12 511) ?_
               refine pU_ 9 (some 115) (mk_ 12 1023) ?_
               refine oN_ 10 (some 116) (mk_ 12 2047) (fun K hK => ?_)
               refine gO_ Try.func41 #[.int .i64 ((rd_T93 l1_2 x8_4).f0), .int .i64 0, .int .i64 (wrap64 ((l1_0.length : Int) - 1))] ?_
               with_reducible refine (spec_l1In.calls ((rd_T93 l1_2 x8_4).f0) 0 (wrap64 ((l1_0.length : Int) - 1)) true _ A74.out).mono ?_
               rintro e w' ⟨rfl, ⟨nd, rfl⟩⟩
               refine ⟨_, rfl, ?_⟩
               refine hK.out _ _ ⟨(blk_cell BK140.out 0).trans rfl, (blk_cell BK140.out 1).trans rfl, (blk_cell BK140.out 2).trans rfl, (cB_ HB.out hw151_0 :), (cB_ HB.out hw151_1 :)⟩ (fun hHeld => ?_)
               clear hK K
               refine norm_ (a' := ?_) ?_ ?_
               rotate_left
               ·show Act.put _ (some 116) _ = _
                simp only [pt_, pn_, sI_, s0_, s1_, i64_w, i32_w]
                rfl
               refine pU_ 11 (some 117) (mk_ 12 4095) ?_
               refine done_ (done_of HT_.out (by kernel_rfl)) ?_
               try go_wp2
               go_roundg k4
               case measure => have := HJ2.out; have := HK2.out; have := HK3.out; have := HK4.out; omega
               case rel => exact ⟨(wrap64 (x8_4 + 1)), (by first | rfl | (simp; done) | (simp [*]; done)), H', ⟨by have := HJ2.out; have := HK2.out; have := HK3.out; have := HK4.out; omega⟩, ⟨rW_ BK139.out⟩, ⟨rW_ BK140.out⟩, ⟨gW_ HB.out⟩⟩
              ·replace c75 := Bool.eq_false_iff.mpr c75
               subst c75
               have H1 : (some false) = some r := by rw [if_neg (show ¬ (false = true) by decide)] at H; exact H
               clear H
               have H := H1
               clear H1
               obtain rfl := Option.some.inj H
               have hnb79 := NB140_139.out
               have hnc79 := NB139_140.out
               obtain ⟨hcz80_0, hcz80_1, hcz80_2, hfz80_0, hfz80_1, hfz80_2⟩ := bR3_ BK140.out
               try go_wp2
               have n0 := aM_ (blk_drew BK139.out)
               have n1 := aM_ (blk_drew BK140.out)
               have n2 := aM_ (below_drew1 HB.out)
               clear BK139
               clear BK140
               clear HB
               have BK139 := n0
               have BK140 := n1
               have HB := n2
               clear n0 n1 n2
               have p151 : 0 ≤ (x8_4 : Int) := of_decide_eq_true (by first | (with_reducible assumption) | assumption)
               have q151 : x8_4 < (l1_2.length : Int) := of_decide_eq_true (by first | (with_reducible assumption) | assumption)
               obtain ⟨ad151, e151, hx151_0, hx151_1⟩ := at_T93 HR1_2.out x8_4 p151 q151
               have hw151_1 := hx151_1
               have hw151_0 := hx151_0
               cases e151
               replace hx151_0 := cB_ HB.out hx151_0
               replace hx151_1 := cB_ HB.out hx151_1
               replace p151 := eq_true p151
               replace q151 := eq_true q151
               refine start_ (n := 12) (S := fun w' => w'.cell? ⟨gb140, 0, none⟩ = some (.slice A1_0 l1_0.length c1_0) ∧ w'.cell? ⟨gb140, 1, none⟩ = some (.slice A1_1 l1_1.length c1_1) ∧ w'.cell? ⟨gb140, 2, none⟩ = some (.slice (some ad151) l1_2.length c1_2) ∧ w'.cell? (ad151.add ((x8_4).toNat * 2)) = some (.int .i64 ((rd_T93 l1_2 x8_4).f0)) ∧ w'.cell? ⟨(ad151.add ((x8_4).toNat * 2)).block, (ad151.add ((x8_4).toNat * 2)).off + 1, none⟩ = some (.int .i64 ((rd_T93 l1_2 x8_4).f1))) (ds := []) (mk_ 12 0) (by kernel_rfl) rfl rfl ⟨(blk_cell BK140.out 0).trans rfl, (blk_cell BK140.out 1).trans rfl, (blk_cell BK140.out 2).trans rfl, (cB_ HB.out hw151_0 :), (cB_ HB.out hw151_1 :)⟩ (fun hHeld => ?_); refine with_tabW spec_SourceOk.tab17 spec_SourceOk.bits17 (fun HT_ HW_ => ?_)
               generalize wr.drew = w81 at BK139 BK140 HB hx151_0 hx151_1 hHeld ⊢
               refine pU_ 0 (some 106) (mk_ 12 1) ?_
               refine pU_ 2 (some 108) (mk_ 12 5) ?_
               refine pU_ 6 (some 112) (mk_ 12 69) ?_
               refine tK5_ 1 (some 107) (mk_ 12 71) ?_
               refine pU_ 3 (some 109) (mk_ 12 79) ?_
               refine pU_ 4 (some 110) (mk_ 12 95) ?_
               refine tK5_ 5 (some 111) (mk_ 12 127) ?_
               refine tK5_ 7 (some 113) (mk_ 12 255) ?_
               refine pU_ 8 (some 114) (mk_ 12 511) ?_
               refine pU_ 9 (some 115) (mk_ 12 1023) ?_
               refine oN_ 10 (some 116) (mk_ 12 2047) (fun K hK => ?_)
               refine gO_ Try.func41 #[.int .i64 ((rd_T93 l1_2 x8_4).f0), .int .i64 0, .int .i64 (wrap64 ((l1_0.length : Int) - 1))] ?_
               with_reducible refine (spec_l1In.calls ((rd_T93 l1_2 x8_4).f0) 0 (wrap64 ((l1_0.length : Int) - 1)) false _ A74.out).mono ?_
               rintro e w' ⟨rfl, ⟨nd, rfl⟩⟩
               refine ⟨_, rfl, ?_⟩
               refine hK.out _ _ ⟨(blk_cell BK140.out 0).trans rfl, (blk_cell BK140.out 1).trans rfl, (blk_cell BK140.out 2).trans rfl, (cB_ HB.out hw151_0 :), (cB_ HB.out hw151_1 :)⟩ (fun hHeld => ?_)
               clear hK K
               refine norm_ (a' := ?_) ?_ ?_
               rotate_left
               ·show Act.put _ (some 116) _ = _
                simp only [pt_, pn_, sI_, s0_, s1_, i64_w, i32_w]
                rfl
               refine pU_ 11 (some 117) (mk_ 12 4095) ?_
               refine done_ (done_of HT_.out (by kernel_rfl)) ?_
               try go_wp2
               go_ret
               exact fI_ HB.out
             ·rw [if_neg c73] at H
              exact absurd H (by simp)
            ·rw [if_neg c72] at H
             have c72b0 : decide (x8_4 < (l1_2.length : Int)) = false := decide_eq_false c72
             clear c72
             obtain rfl := Option.some.inj H
             have hnb82 := NB140_139.out
             have hnc82 := NB139_140.out
             obtain ⟨hcz83_0, hcz83_1, hcz83_2, hfz83_0, hfz83_1, hfz83_2⟩ := bR3_ BK140.out
             go_wp2
             go_ret
             exact fI_ HB.out
end Go.Proofs.Ytfaoipojijhlbaa.PFnExactSourceOk
