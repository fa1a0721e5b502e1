/- A part of the proof that the law FnExactSourceOk holds for every input: the words, functions and walks that its row needs, without a condition of their own. -/
import Derived.Test.YtfaoipojijhlbaaZFnExactSourceOka2
import Derived.Test.YtfaoipojijhlbaaZFnExactSourceOka7
import Derived.Test.YtfaoipojijhlbaaZFnExactSourceOka10
import Derived.Test.YtfaoipojijhlbaaZFnExactSourceOks
namespace Go.Proofs.Ytfaoipojijhlbaa.PFnExactSourceOk
open Go.RowKit Go.Proofs.YtfaoipojijhlbaaW.PrintWords Go.Proofs.YtfaoipojijhlbaaW.PrintLast Go.Proofs.YtfaoipojijhlbaaW.PrintMore
attribute [local go_sem] max2_int min2_int max_two min_two max_three min_three max_four min_four   -- for this text's walks alone
set_option linter.unusedVariables false
set_option linter.unusedSimpArgs false
mutual
def impl_SourceOk.j0 : Nat → Bool → List Int → List (List (S155)) → List (S86) → List (S91) → List (S93) → Option (Bool)
  | 0, _, _, _, _, _, _ => none
  | k + 1, x38, x281000, x281001, x282000, x282001, x282002 => if x38 = true then (some false) else (impl_SourceOk.l0 k x282000 (x282000.length : Int) 0 x281000 x281001 x282000 x282001 x282002)
def impl_SourceOk.l0 : Nat → List (S86) → Int → Int → List Int → List (List (S155)) → List (S86) → List (S91) → List (S93) → Option (Bool)
  | 0, _, _, _, _, _, _, _, _ => none
  | k + 1, x40, x41, x42, x281000, x281001, x282000, x282001, x282002 => if x42 < x41 then (if 0 ≤ x42 then (if x42 < (x40.length : Int) then (if (((rd_T86 x40 x42).f1).length : Int) = 4 then ((impl_within.f ((rd_T86 x40 x42).f2) 0 2).bind fun t286 => (if t286 = true then (if x42 < (x281001.length : Int) then ((impl_within.f ((rd_T86 x40 x42).f0) 0 (wrap64 (((rd_L9 x281001 x42).length : Int) - 1))).bind fun t288 => (impl_SourceOk.j2 k x40 x41 x42 (!t288) x281000 x281001 x282000 x282001 x282002)) else (none)) else (impl_SourceOk.j2 k x40 x41 x42 true x281000 x281001 x282000 x282001 x282002))) else (impl_SourceOk.j2 k x40 x41 x42 true x281000 x281001 x282000 x282001 x282002)) else (none)) else (none)) else (impl_SourceOk.l1 k x282001 (x282001.length : Int) 0 x281000 x281001)
def impl_SourceOk.j2 : Nat → List (S86) → Int → Int → Bool → List Int → List (List (S155)) → List (S86) → List (S91) → List (S93) → Option (Bool)
  | 0, _, _, _, _, _, _, _, _, _ => none
  | k + 1, x40, x41, x42, x69, x281000, x281001, x282000, x282001, x282002 => if x69 = true then (some false) else (impl_SourceOk.l0 k x40 x41 (wrap64 (x42 + 1)) x281000 x281001 x282000 x282001 x282002)
def impl_SourceOk.l1 : Nat → List (S91) → Int → Int → List Int → List (List (S155)) → Option (Bool)
  | 0, _, _, _, _, _ => none
  | k + 1, x72, x73, x74, x281000, x281001 => if x74 < x73 then (if 0 ≤ x74 then (if x74 < (x72.length : Int) then ((impl_ChanOk.f ((rd_T91 x72 x74).f0) ((rd_T91 x72 x74).f1) ((rd_T91 x72 x74).f2)).bind fun t291 => (if t291 = true then (if x74 < (x281000.length : Int) then (if ((rd_T91 x72 x74).f0) = (rd x281000 x74) then (impl_SourceOk.l1 k x72 x73 (wrap64 (x74 + 1)) x281000 x281001) else (some false)) else (none)) else (some false))) else (none)) else (none)) else (some true)
end
def impl_SourceOk.f (k : Nat) (l0_0 : List Int) (l0_1 : List (List (S155))) (l1_0 : List (S86)) (l1_1 : List (S91)) (l1_2 : List (S93)) : Option (Bool) := (impl_ProgOk.f k l0_0 l0_1).bind fun t282 => (if t282 = true then (if (l1_0.length : Int) = (l0_1.length : Int) then (if (l1_1.length : Int) = (l0_0.length : Int) then ((impl_notesOk.f k l1_2 (l1_0.length : Int)).bind fun t283 => (impl_SourceOk.j0 k (!t283) l0_0 l0_1 l1_0 l1_1 l1_2)) else (impl_SourceOk.j0 k true l0_0 l0_1 l1_0 l1_1 l1_2)) else (impl_SourceOk.j0 k true l0_0 l0_1 l1_0 l1_1 l1_2)) else (impl_SourceOk.j0 k true l0_0 l0_1 l1_0 l1_1 l1_2))
def impl_SourceOk.T6 : Bool × List (List Nat × List Nat) := (true, [([], []), ([0], [0]), ([1], [1]), ([2], [2]), ([3], [3]), ([4], [4]), ([5, 4], [4, 5]), ([6, 4, 4], [4, 6]), ([7, 4], [4, 7]), ([4, 8], [4, 8]), ([9, 7], [9]), ([10], [10]), ([11, 10], [10, 11]), ([10], [10]), ([13, 10], [10, 13]), ([10], [10]), ([14, 15, 10], [10, 14, 15]), ([16, 10], [10, 16]), ([17, 10], [10, 17]), ([18, 10], [10, 18]), ([12, 19, 10, 10], [10, 12, 19]), ([20, 10], [10, 20]), ([10, 21], [10, 21])])
def impl_SourceOk.B6 : List Nat := [0, 1, 3, 7, 15, 31, 63, 127, 255, 511, 1023, 2047, 4095, 2047, 10239, 2047, 59391, 124927, 255999, 518143, 1048575, 2097151, 4194303]
theorem impl_SourceOk.tab6 : rtab .any (opsOf Try.f18 6) = impl_SourceOk.T6 := by kernel_rfl
theorem impl_SourceOk.bits6 : waitsOk impl_SourceOk.T6.2 impl_SourceOk.B6 = true := by kernel_rfl
def impl_SourceOk.T12 : Bool × List (List Nat × List Nat) := (true, [([], []), ([0], [0]), ([1], [1]), ([2, 1], [2]), ([3], [3]), ([4, 3], [3, 4]), ([3], [3]), ([6, 3], [3, 6]), ([3], [3]), ([7, 8, 3], [3, 7, 8]), ([9, 3], [3, 9]), ([5, 10, 3], [3, 5, 10]), ([3, 11], [3, 11])])
def impl_SourceOk.B12 : List Nat := [0, 1, 3, 7, 15, 31, 15, 79, 15, 463, 975, 2047, 4095]
theorem impl_SourceOk.tab12 : rtab .any (opsOf Try.f18 12) = impl_SourceOk.T12 := by kernel_rfl
theorem impl_SourceOk.bits12 : waitsOk impl_SourceOk.T12.2 impl_SourceOk.B12 = true := by kernel_rfl
set_option maxHeartbeats 8000000 in
set_option maxRecDepth 100000 in
theorem impl_SourceOk.calls (k : Nat) (A0_0 : Option Addr) (c0_0 : Nat) (l0_0 : List Int) (A0_1 : Option Addr) (c0_1 : Nat) (l0_1 : List (List (S155))) (A1_0 : Option Addr) (c1_0 : Nat) (l1_0 : List (S86)) (A1_1 : Option Addr) (c1_1 : Nat) (l1_1 : List (S91)) (A1_2 : Option Addr) (c1_2 : Nat) (l1_2 : List (S93)) (r : Bool) (w : World) (hr0_0 : Kd.C (Kd.int .i64) w A0_0 l0_0.length l0_0) (hc0_0 : l0_0.length ≤ c0_0) (hr0_1 : Kd.C (Kd.slice 155 k155) w A0_1 l0_1.length l0_1) (hc0_1 : l0_1.length ≤ c0_1) (hr1_0 : Kd.C k86 w A1_0 l1_0.length l1_0) (hc1_0 : l1_0.length ≤ c1_0) (hr1_1 : Kd.C k91 w A1_1 l1_1.length l1_1) (hc1_1 : l1_1.length ≤ c1_1) (hr1_2 : Kd.C k93 w A1_2 l1_2.length l1_2) (hc1_2 : l1_2.length ≤ c1_2) (h : impl_SourceOk.f k l0_0 l0_1 l1_0 l1_1 l1_2 = some r) :
  Calls Try.prog 18 #[.agg #[.slice A0_0 l0_0.length c0_0, .slice A0_1 l0_1.length c0_1], .agg #[.slice A1_0 l1_0.length c1_0, .slice A1_1 l1_1.length c1_1, .slice A1_2 l1_2.length c1_2]] w fun e w' => e = .returned (.bool r) ∧ Below w.heap.size w w' := by
 have hu49 := Try.underlying49
 have hu55 := Try.underlying55
 have hu86 := Try.underlying86
 have hu91 := Try.underlying91
 have HR0_0 := aM_ hr0_0
 have HC0_0 := aM_ hc0_0
 clear hr0_0 hc0_0
 have HR0_1 := aM_ hr0_1
 have HC0_1 := aM_ hc0_1
 clear hr0_1 hc0_1
 have HR1_0 := aM_ hr1_0
 have HC1_0 := aM_ hc1_0
 clear hr1_0 hc1_0
 have HR1_1 := aM_ hr1_1
 have HC1_1 := aM_ hc1_1
 clear hr1_1 hc1_1
 have HR1_2 := aM_ hr1_2
 have HC1_2 := aM_ hc1_2
 clear hr1_2 hc1_2
 have HB := aM_ (Below.refl w.heap.size w)
 have H : ((impl_ProgOk.f k l0_0 l0_1).bind fun t282 => (if t282 = true then (if (l1_0.length : Int) = (l0_1.length : Int) then (if (l1_1.length : Int) = (l0_0.length : Int) then ((impl_notesOk.f k l1_2 (l1_0.length : Int)).bind fun t283 => (impl_SourceOk.j0 k (!t283) l0_0 l0_1 l1_0 l1_1 l1_2)) else (impl_SourceOk.j0 k true l0_0 l0_1 l1_0 l1_1 l1_2)) else (impl_SourceOk.j0 k true l0_0 l0_1 l1_0 l1_1 l1_2)) else (impl_SourceOk.j0 k true l0_0 l0_1 l1_0 l1_1 l1_2))) = some r := h
 clear h
 have HC3 := aM_ H
 clear H
 go_enter Try.func18, Try.ntmps18
 go_upto_region 1 with (first | ((with_reducible refine gate_dst (N := 2) rfl ?_); (try (refine gate_guard (by rfl) ?_; dsimp only)); refine bX_ 2 (cs := #[.slice A0_0 l0_0.length c0_0, .slice A0_1 l0_1.length c0_1]) (t := 49) ?_; intro gb280 hg w4 hbox hb; have n0 := aM_ (sT_ HB.out hb); have n1 := aM_ (hbox); have n2 := aM_ (sZ_ hg HB.out); have n3 := aM_ (sZ_ hg HB.out); clear HB; have HB := n0; have BK280 := n1; have GW280 := n2; have GE280 := n3; clear n0 n1 n2 n3; clear hb hbox hg) | ((with_reducible refine gate_dst (N := 3) rfl ?_); (try (refine gate_guard (by rfl) ?_; dsimp only)); refine bX_ 3 (cs := #[.slice A1_0 l1_0.length c1_0, .slice A1_1 l1_1.length c1_1, .slice A1_2 l1_2.length c1_2]) (t := 55) ?_; intro gb281 hg w5 hbox hb; have n0 := aM_ (nB_ BK280.out hb); have n1 := aM_ (sT_ HB.out hb); have n2 := aM_ (hbox); have n3 := aM_ (sZ_ hg HB.out); have n4 := aM_ (sZ_ hg HB.out); have n5 := aM_ (nL_ hg BK280.out); have n6 := aM_ (nG_ hg BK280.out); clear BK280; clear HB; have BK280 := n0; have HB := n1; have BK281 := n2; have GW281 := n3; have GE281 := n4; have NB280_281 := n5; have NB281_280 := n6; clear n0 n1 n2 n3 n4 n5 n6; clear hb hbox hg))
 (try simp only [Act.put, List.setIfInBounds_toArray, List.set_cons_zero, List.set_cons_succ])
 go_cut [38] (fun v38 wc => ∃ (kq : Nat) (x38_2 : Bool), v38 = .bool x38_2 ∧ Aside0 (impl_SourceOk.j0 kq x38_2 l0_0 l0_1 l1_0 l1_1 l1_2 = some r) ∧ Aside0 (kq ≤ k) ∧ Aside0 (wc.heap[gb280]? = some (.cells #[(.slice A0_0 l0_0.length c0_0), (.slice A0_1 l0_1.length c0_1)] 49 (0, 0))) ∧ Aside0 (wc.heap[gb281]? = some (.cells #[(.slice A1_0 l1_0.length c1_0), (.slice A1_1 l1_1.length c1_1), (.slice A1_2 l1_2.length c1_2)] 55 (0, 0))) ∧ Aside0 (Below w.heap.size w wc))
 case first =>
  have H := HC3.out
  clear HC3
  replace H := Option.bind_eq_some_iff.mp H
  obtain ⟨t282, A60, H⟩ := H
  replace H : (if t282 = true then (if (l1_0.length : Int) = (l0_1.length : Int) then (if (l1_1.length : Int) = (l0_0.length : Int) then ((impl_notesOk.f k l1_2 (l1_0.length : Int)).bind fun t283 => (impl_SourceOk.j0 k (!t283) l0_0 l0_1 l1_0 l1_1 l1_2)) else (impl_SourceOk.j0 k true l0_0 l0_1 l1_0 l1_1 l1_2)) else (impl_SourceOk.j0 k true l0_0 l0_1 l1_0 l1_1 l1_2)) else (impl_SourceOk.j0 k true l0_0 l0_1 l1_0 l1_1 l1_2)) = some r := H
  have A6 := aM_ A60
  clear A60
  by_cases c7 : t282 = true
  ·subst c7
   have H1 : (if (l1_0.length : Int) = (l0_1.length : Int) then (if (l1_1.length : Int) = (l0_0.length : Int) then ((impl_notesOk.f k l1_2 (l1_0.length : Int)).bind fun t283 => (impl_SourceOk.j0 k (!t283) l0_0 l0_1 l1_0 l1_1 l1_2)) else (impl_SourceOk.j0 k true l0_0 l0_1 l1_0 l1_1 l1_2)) else (impl_SourceOk.j0 k true l0_0 l0_1 l1_0 l1_1 l1_2)) = some r := by rw [if_pos rfl] at H; exact H
   clear H
   have H := H1
   clear H1
   by_cases c8 : (l1_0.length : Int) = (l0_1.length : Int)
   ·rw [if_pos c8] at H
    have c8b0 : ((l1_0.length : Int) == (l0_1.length : Int)) = true := beq_iff_eq.mpr c8
    have c8b1 : ((l1_0.length : Int) != (l0_1.length : Int)) = false := bne_eq_false_iff_eq.mpr c8
    have c8b2 : (l1_0.length == l0_1.length) = true := by first | simpa using c8 | (simp at c8 ⊢; omega)
    clear c8
    (first | rw [c8b0] | (simp only [i64_w, i32_w]; rw [c8b0]) | skip)
    by_cases c9 : (l1_1.length : Int) = (l0_0.length : Int)
    ·rw [if_pos c9] at H
     have c9b0 : ((l1_1.length : Int) == (l0_0.length : Int)) = true := beq_iff_eq.mpr c9
     have c9b1 : ((l1_1.length : Int) != (l0_0.length : Int)) = false := bne_eq_false_iff_eq.mpr c9
     have c9b2 : (l1_1.length == l0_0.length) = true := by first | simpa using c9 | (simp at c9 ⊢; omega)
     clear c9
     replace H := Option.bind_eq_some_iff.mp H
     obtain ⟨t283, A100, H⟩ := H
     replace H : (impl_SourceOk.j0 k (!t283) l0_0 l0_1 l1_0 l1_1 l1_2) = some r := H
     have A10 := aM_ A100
     clear A100
     have H' := aM_ H
     clear H
     have hnb11 := NB280_281.out
     have hnc11 := NB281_280.out
     obtain ⟨hcz12_0, hcz12_1, hfz12_0, hfz12_1⟩ := bR2_ BK280.out
     go_wp2_with (first | ((with_reducible refine gate_callee (f := 47) rfl ?_); refine gL_ (some 10) Try.func47 #[.agg #[.slice A0_0 l0_0.length c0_0, .slice A0_1 l0_1.length c0_1]] ?_; (with_reducible refine (impl_ProgOk.calls k _ _ l0_0 _ _ l0_1 true _ ?side1 ?side2 ?side3 ?side4 A6.out).mono ?_); (case side1 => exact cS_ (Kd.C_below HR0_0.out HB.out)); (case side2 => exact HC0_0.out); (case side3 => exact cS_ (Kd.C_below HR0_1.out HB.out)); (case side4 => exact HC0_1.out); rintro e w13 ⟨rfl, hb⟩; refine ⟨_, rfl, ?_⟩; have n0 := aM_ (nB_ BK280.out hb); have n1 := aM_ (nB_ BK281.out hb); have n2 := aM_ (sT_ HB.out hb); clear BK280; clear BK281; clear HB; have BK280 := n0; have BK281 := n1; have HB := n2; clear n0 n1 n2; obtain ⟨hcz14_0, hcz14_1, hcz14_2, hfz14_0, hfz14_1, hfz14_2⟩ := bR3_ BK281.out; obtain ⟨hcz15_0, hcz15_1, hfz15_0, hfz15_1⟩ := bR2_ BK280.out) | (go_at_call 48; (with_reducible refine (impl_notesOk.calls k _ _ l1_2 (l1_0.length : Int) t283 _ ?side1 ?side2 A10.out).mono ?_); (case side1 => exact cS_ (Kd.C_below HR1_2.out HB.out)); (case side2 => exact HC1_2.out); rintro e w16 ⟨rfl, hb⟩; have n0 := aM_ (nB_ BK280.out hb); have n1 := aM_ (nB_ BK281.out hb); have n2 := aM_ (sT_ HB.out hb); clear BK280; clear BK281; clear HB; have BK280 := n0; have BK281 := n1; have HB := n2; clear n0 n1 n2))
     go_meet
     case rel => exact ⟨_, (!t283), (by first | rfl | (simp; done) | (simp [*]; done)), H', ⟨by first | omega | exact Nat.le_refl _⟩, ⟨rW_ BK280.out⟩, ⟨rW_ BK281.out⟩, ⟨gW_ HB.out⟩⟩
    ·rw [if_neg c9] at H
     have c9b0 : ((l1_1.length : Int) == (l0_0.length : Int)) = false := beq_eq_false_iff_ne.mpr c9
     have c9b1 : ((l1_1.length : Int) != (l0_0.length : Int)) = true := bne_iff_ne.mpr c9
     have c9b2 : (l1_1.length == l0_0.length) = false := by first | simpa using c9 | (simp at c9 ⊢; omega)
     have H' := aM_ H
     clear H
     have hnb17 := NB280_281.out
     have hnc17 := NB281_280.out
     obtain ⟨hcz18_0, hcz18_1, hfz18_0, hfz18_1⟩ := bR2_ BK280.out
     go_wp2_with (first | ((with_reducible refine gate_callee (f := 47) rfl ?_); refine gL_ (some 10) Try.func47 #[.agg #[.slice A0_0 l0_0.length c0_0, .slice A0_1 l0_1.length c0_1]] ?_; (with_reducible refine (impl_ProgOk.calls k _ _ l0_0 _ _ l0_1 true _ ?side1 ?side2 ?side3 ?side4 A6.out).mono ?_); (case side1 => exact cS_ (Kd.C_below HR0_0.out HB.out)); (case side2 => exact HC0_0.out); (case side3 => exact cS_ (Kd.C_below HR0_1.out HB.out)); (case side4 => exact HC0_1.out); rintro e w19 ⟨rfl, hb⟩; refine ⟨_, rfl, ?_⟩; have n0 := aM_ (nB_ BK280.out hb); have n1 := aM_ (nB_ BK281.out hb); have n2 := aM_ (sT_ HB.out hb); clear BK280; clear BK281; clear HB; have BK280 := n0; have BK281 := n1; have HB := n2; clear n0 n1 n2; obtain ⟨hcz20_0, hcz20_1, hcz20_2, hfz20_0, hfz20_1, hfz20_2⟩ := bR3_ BK281.out; obtain ⟨hcz21_0, hcz21_1, hfz21_0, hfz21_1⟩ := bR2_ BK280.out))
     go_meet
     case rel => exact ⟨_, (true), (by first | rfl | (simp; done) | (simp [*]; done)), H', ⟨by first | omega | exact Nat.le_refl _⟩, ⟨rW_ BK280.out⟩, ⟨rW_ BK281.out⟩, ⟨gW_ HB.out⟩⟩
   ·rw [if_neg c8] at H
    have c8b0 : ((l1_0.length : Int) == (l0_1.length : Int)) = false := beq_eq_false_iff_ne.mpr c8
    have c8b1 : ((l1_0.length : Int) != (l0_1.length : Int)) = true := bne_iff_ne.mpr c8
    have c8b2 : (l1_0.length == l0_1.length) = false := by first | simpa using c8 | (simp at c8 ⊢; omega)
    (first | rw [c8b0] | (simp only [i64_w, i32_w]; rw [c8b0]) | skip)
    have H' := aM_ H
    clear H
    have hnb22 := NB280_281.out
    have hnc22 := NB281_280.out
    obtain ⟨hcz23_0, hcz23_1, hfz23_0, hfz23_1⟩ := bR2_ BK280.out
    go_wp2_with (first | ((with_reducible refine gate_callee (f := 47) rfl ?_); refine gL_ (some 10) Try.func47 #[.agg #[.slice A0_0 l0_0.length c0_0, .slice A0_1 l0_1.length c0_1]] ?_; (with_reducible refine (impl_ProgOk.calls k _ _ l0_0 _ _ l0_1 true _ ?side1 ?side2 ?side3 ?side4 A6.out).mono ?_); (case side1 => exact cS_ (Kd.C_below HR0_0.out HB.out)); (case side2 => exact HC0_0.out); (case side3 => exact cS_ (Kd.C_below HR0_1.out HB.out)); (case side4 => exact HC0_1.out); rintro e w24 ⟨rfl, hb⟩; refine ⟨_, rfl, ?_⟩; have n0 := aM_ (nB_ BK280.out hb); have n1 := aM_ (nB_ BK281.out hb); have n2 := aM_ (sT_ HB.out hb); clear BK280; clear BK281; clear HB; have BK280 := n0; have BK281 := n1; have HB := n2; clear n0 n1 n2; obtain ⟨hcz25_0, hcz25_1, hcz25_2, hfz25_0, hfz25_1, hfz25_2⟩ := bR3_ BK281.out; obtain ⟨hcz26_0, hcz26_1, hfz26_0, hfz26_1⟩ := bR2_ BK280.out))
    go_meet
    case rel => exact ⟨_, (true), (by first | rfl | (simp; done) | (simp [*]; done)), H', ⟨by first | omega | exact Nat.le_refl _⟩, ⟨rW_ BK280.out⟩, ⟨rW_ BK281.out⟩, ⟨gW_ HB.out⟩⟩
  ·replace c7 := Bool.eq_false_iff.mpr c7
   subst c7
   have H1 : (impl_SourceOk.j0 k true l0_0 l0_1 l1_0 l1_1 l1_2) = some r := by rw [if_neg (show ¬ (false = true) by decide)] at H; exact H
   clear H
   have H := H1
   clear H1
   have H' := aM_ H
   clear H
   have hnb27 := NB280_281.out
   have hnc27 := NB281_280.out
   obtain ⟨hcz28_0, hcz28_1, hfz28_0, hfz28_1⟩ := bR2_ BK280.out
   go_wp2_with (first | ((with_reducible refine gate_callee (f := 47) rfl ?_); refine gL_ (some 10) Try.func47 #[.agg #[.slice A0_0 l0_0.length c0_0, .slice A0_1 l0_1.length c0_1]] ?_; (with_reducible refine (impl_ProgOk.calls k _ _ l0_0 _ _ l0_1 false _ ?side1 ?side2 ?side3 ?side4 A6.out).mono ?_); (case side1 => exact cS_ (Kd.C_below HR0_0.out HB.out)); (case side2 => exact HC0_0.out); (case side3 => exact cS_ (Kd.C_below HR0_1.out HB.out)); (case side4 => exact HC0_1.out); rintro e w29 ⟨rfl, hb⟩; refine ⟨_, rfl, ?_⟩; have n0 := aM_ (nB_ BK280.out hb); have n1 := aM_ (nB_ BK281.out hb); have n2 := aM_ (sT_ HB.out hb); clear BK280; clear BK281; clear HB; have BK280 := n0; have BK281 := n1; have HB := n2; clear n0 n1 n2))
   go_meet
   case rel => exact ⟨_, (true), (by first | rfl | (simp; done) | (simp [*]; done)), H', ⟨by first | omega | exact Nat.le_refl _⟩, ⟨rW_ BK280.out⟩, ⟨rW_ BK281.out⟩, ⟨gW_ HB.out⟩⟩
 case rest =>
  clear HC3
  try clear c1
  try clear c2
  try clear p2
  try clear c4
  try clear c7
  try clear c8
  try clear c8b0
  try clear c8b1
  try clear c8b2
  try clear c9
  try clear c9b0
  try clear c9b1
  try clear c9b2
  try clear c11
  try clear c17
  try clear c18
  try clear c22
  try clear c27
  try clear hcz12_0
  try clear hcz12_1
  try clear hcz14_0
  try clear hcz14_1
  try clear hcz14_2
  try clear hcz15_0
  try clear hcz15_1
  try clear hcz18_0
  try clear hcz18_1
  try clear hcz20_0
  try clear hcz20_1
  try clear hcz20_2
  try clear hcz21_0
  try clear hcz21_1
  try clear hcz23_0
  try clear hcz23_1
  try clear hcz25_0
  try clear hcz25_1
  try clear hcz25_2
  try clear hcz26_0
  try clear hcz26_1
  try clear hcz28_0
  try clear hcz28_1
  try clear hfz12_0
  try clear hfz12_1
  try clear hfz14_0
  try clear hfz14_1
  try clear hfz14_2
  try clear hfz15_0
  try clear hfz15_1
  try clear hfz18_0
  try clear hfz18_1
  try clear hfz20_0
  try clear hfz20_1
  try clear hfz20_2
  try clear hfz21_0
  try clear hfz21_1
  try clear hfz23_0
  try clear hfz23_1
  try clear hfz25_0
  try clear hfz25_1
  try clear hfz25_2
  try clear hfz26_0
  try clear hfz26_1
  try clear hfz28_0
  try clear hfz28_1
  obtain ⟨kq, x38_2, rfl, HA, HJ2, BK280, BK281, HB⟩ := hcut
  cases kq with
  | zero => exact absurd HA.out (by simp [impl_SourceOk.j0])
  | succ kj2 =>
   have H := HA.out
   clear HA
   simp only [impl_SourceOk.j0] at H
   by_cases c30 : x38_2 = true
   ·subst c30
    have H1 : (some false) = some r := by rw [if_pos rfl] at H; exact H
    clear H
    have H := H1
    clear H1
    obtain rfl := Option.some.inj H
    go_wp2
    go_ret
    exact fI_ HB.out
   ·replace c30 := Bool.eq_false_iff.mpr c30
    subst c30
    have H1 : (impl_SourceOk.l0 kj2 l1_0 (l1_0.length : Int) 0 l0_0 l0_1 l1_0 l1_1 l1_2) = some r := by rw [if_neg (show ¬ (false = true) by decide)] at H; exact H
    clear H
    have H := H1
    clear H1
    have H' := aM_ H
    clear H
    have hnb31 := NB281_280.out
    have hnc31 := NB280_281.out
    obtain ⟨hcz32_0, hcz32_1, hcz32_2, hfz32_0, hfz32_1, hfz32_2⟩ := bR3_ BK281.out
    go_wp2
    go_loopg [42] kj2 (fun kq v42 w' => ∃ (x42_2 : Int), v42 = .int .i64 x42_2 ∧ Aside0 (impl_SourceOk.l0 kq l1_0 (l1_0.length : Int) x42_2 l0_0 l0_1 l1_0 l1_1 l1_2 = some r) ∧ Aside0 (kq ≤ kj2) ∧ Aside0 (w'.heap[gb280]? = some (.cells #[(.slice A0_0 l0_0.length c0_0), (.slice A0_1 l0_1.length c0_1)] 49 (0, 0))) ∧ Aside0 (w'.heap[gb281]? = some (.cells #[(.slice A1_0 l1_0.length c1_0), (.slice A1_1 l1_1.length c1_1), (.slice A1_2 l1_2.length c1_2)] 55 (0, 0))) ∧ Aside0 (Below w.heap.size w w'))
    case atStart => exact ⟨(0), (by first | rfl | (simp; done) | (simp [*]; done)), H', ⟨Nat.le_refl _⟩, ⟨rW_ BK280.out⟩, ⟨rW_ BK281.out⟩, ⟨gW_ HB.out⟩⟩
    case round =>
     clear H'
     try clear c1
     try clear c2
     try clear p2
     try clear c3
     try clear c4
     try clear c7
     try clear c8
     try clear c8b0
     try clear c8b1
     try clear c8b2
     try clear c9
     try clear c9b0
     try clear c9b1
     try clear c9b2
     try clear c11
     try clear c17
     try clear c18
     try clear c22
     try clear c27
     try clear c30
     try clear c31
     try clear hcz12_0
     try clear hcz12_1
     try clear hcz14_0
     try clear hcz14_1
     try clear hcz14_2
     try clear hcz15_0
     try clear hcz15_1
     try clear hcz18_0
     try clear hcz18_1
     try clear hcz20_0
     try clear hcz20_1
     try clear hcz20_2
     try clear hcz21_0
     try clear hcz21_1
     try clear hcz23_0
     try clear hcz23_1
     try clear hcz25_0
     try clear hcz25_1
     try clear hcz25_2
     try clear hcz26_0
     try clear hcz26_1
     try clear hcz28_0
     try clear hcz28_1
     try clear hcz32_0
     try clear hcz32_1
     try clear hcz32_2
     try clear hfz12_0
     try clear hfz12_1
     try clear hfz14_0
     try clear hfz14_1
     try clear hfz14_2
     try clear hfz15_0
     try clear hfz15_1
     try clear hfz18_0
     try clear hfz18_1
     try clear hfz20_0
     try clear hfz20_1
     try clear hfz20_2
     try clear hfz21_0
     try clear hfz21_1
     try clear hfz23_0
     try clear hfz23_1
     try clear hfz25_0
     try clear hfz25_1
     try clear hfz25_2
     try clear hfz26_0
     try clear hfz26_1
     try clear hfz28_0
     try clear hfz28_1
     try clear hfz32_0
     try clear hfz32_1
     try clear hfz32_2
     try clear p2
     obtain ⟨x42_2, rfl, HA, HK2, BK280, BK281, HB⟩ := hrel
     cases gk with
     | zero => exact absurd HA.out (by simp [impl_SourceOk.l0])
     | succ k2 =>
      have H := HA.out
      clear HA
      simp only [impl_SourceOk.l0] at H
      by_cases c33 : x42_2 < (l1_0.length : Int)
      ·rw [if_pos c33] at H
       have c33b0 : decide (x42_2 < (l1_0.length : Int)) = true := decide_eq_true c33
       clear c33
       by_cases c34 : 0 ≤ x42_2
       ·rw [if_pos c34] at H
        have c34b0 : decide (0 ≤ x42_2) = true := decide_eq_true c34
        clear c34
        by_cases c35 : x42_2 < (l1_0.length : Int)
        ·rw [if_pos c35] at H
         have c35b0 : decide (x42_2 < (l1_0.length : Int)) = true := decide_eq_true c35
         clear c35
         have HC36 := aM_ H
         clear H
         have p284 : 0 ≤ (x42_2 : Int) := of_decide_eq_true (by first | (with_reducible assumption) | assumption)
         have q284 : x42_2 < (l1_0.length : Int) := of_decide_eq_true (by first | (with_reducible assumption) | assumption)
         obtain ⟨ad284, A284_1, c284_1, e284, hx284_0, hx284_1, hx284_2, hl284_1, hi284_1⟩ := at_T86 HR1_0.out x42_2 p284 q284
         cases e284
         replace hx284_0 := cB_ HB.out hx284_0
         replace hx284_1 := cB_ HB.out hx284_1
         replace hx284_2 := cB_ HB.out hx284_2
         have HR284_1 := aM_ hi284_1
         have HC284_1 := aM_ hl284_1
         clear hi284_1 hl284_1
         replace p284 := eq_true p284
         replace q284 := eq_true q284
         go_upto_region 6 with (first | ((with_reducible refine gate_dst (N := 6) rfl ?_); (try (refine gate_guard (by rfl) ?_; dsimp only)); refine bX_ 6 (cs := #[.int .i64 0, .slice none 0 0, .int .i64 0]) (t := 86) ?_; intro gb285 hg w37 hbox hb; have n0 := aM_ (nB_ BK280.out hb); have n1 := aM_ (nB_ BK281.out hb); have n2 := aM_ (sT_ HB.out hb); have n3 := aM_ (hbox); have n4 := aM_ (sZ_ hg HB.out); have n5 := aM_ (sZ_ hg HB.out); have n6 := aM_ (nL_ hg BK280.out); have n7 := aM_ (nG_ hg BK280.out); have n8 := aM_ (nL_ hg BK281.out); have n9 := aM_ (nG_ hg BK281.out); clear BK280; clear BK281; clear HB; have BK280 := n0; have BK281 := n1; have HB := n2; have BK285 := n3; have GW285 := n4; have GE285 := n5; have NB280_285 := n6; have NB285_280 := n7; have NB281_285 := n8; have NB285_281 := n9; clear n0 n1 n2 n3 n4 n5 n6 n7 n8 n9; clear hb hbox hg; have hnb38 := NB285_280.out; have hnc38 := NB280_285.out; have hnb39 := NB285_281.out; have hnc39 := NB281_285.out; obtain ⟨hcz40_0, hcz40_1, hcz40_2, hfz40_0, hfz40_1, hfz40_2⟩ := bR3_ BK285.out))
         (try simp only [Act.put, List.setIfInBounds_toArray, List.set_cons_zero, List.set_cons_succ])
         go_cut [69] (fun v69 wc => ∃ (kq : Nat) (x69_35 : Bool), v69 = .bool x69_35 ∧ Aside0 (impl_SourceOk.j2 kq l1_0 (l1_0.length : Int) x42_2 x69_35 l0_0 l0_1 l1_0 l1_1 l1_2 = some r) ∧ Aside0 (kq ≤ k2) ∧ Aside0 (wc.heap[gb280]? = some (.cells #[(.slice A0_0 l0_0.length c0_0), (.slice A0_1 l0_1.length c0_1)] 49 (0, 0))) ∧ Aside0 (wc.heap[gb281]? = some (.cells #[(.slice (some ad284) l1_0.length c1_0), (.slice A1_1 l1_1.length c1_1), (.slice A1_2 l1_2.length c1_2)] 55 (0, 0))) ∧ Aside0 (wc.heap[gb285]? = some (.cells #[.int .i64 ((rd_T86 l1_0 x42_2).f0), (.slice A284_1 ((rd_T86 l1_0 x42_2).f1).length c284_1), .int .i64 ((rd_T86 l1_0 x42_2).f2)] 86 (0, 0))) ∧ Aside0 (Below w.heap.size w wc))
         case first =>
          have H := HC36.out
          clear HC36
          by_cases c41 : (((rd_T86 l1_0 x42_2).f1).length : Int) = 4
          ·rw [if_pos c41] at H
           have c41b0 : ((((rd_T86 l1_0 x42_2).f1).length : Int) == 4) = true := beq_iff_eq.mpr c41
           have c41b1 : ((((rd_T86 l1_0 x42_2).f1).length : Int) != 4) = false := bne_eq_false_iff_eq.mpr c41
           clear c41
           (first | rw [c41b0] | (simp only [i64_w, i32_w]; rw [c41b0]) | skip)
           replace H := Option.bind_eq_some_iff.mp H
           obtain ⟨t286, A420, H⟩ := H
           replace H : (if t286 = true then (if x42_2 < (l0_1.length : Int) then ((impl_within.f ((rd_T86 l1_0 x42_2).f0) 0 (wrap64 (((rd_L9 l0_1 x42_2).length : Int) - 1))).bind fun t288 => (impl_SourceOk.j2 k2 l1_0 (l1_0.length : Int) x42_2 (!t288) l0_0 l0_1 l1_0 l1_1 l1_2)) else (none)) else (impl_SourceOk.j2 k2 l1_0 (l1_0.length : Int) x42_2 true l0_0 l0_1 l1_0 l1_1 l1_2)) = some r := H
           have A42 := aM_ A420
           clear A420
           by_cases c43 : t286 = true
           ·subst c43
            have H1 : (if x42_2 < (l0_1.length : Int) then ((impl_within.f ((rd_T86 l1_0 x42_2).f0) 0 (wrap64 (((rd_L9 l0_1 x42_2).length : Int) - 1))).bind fun t288 => (impl_SourceOk.j2 k2 l1_0 (l1_0.length : Int) x42_2 (!t288) l0_0 l0_1 l1_0 l1_1 l1_2)) else (none)) = some r := by rw [if_pos rfl] at H; exact H
            clear H
            have H := H1
            clear H1
            by_cases c44 : x42_2 < (l0_1.length : Int)
            ·rw [if_pos c44] at H
             have c44b0 : decide (x42_2 < (l0_1.length : Int)) = true := decide_eq_true c44
             clear c44
             replace H := Option.bind_eq_some_iff.mp H
             obtain ⟨t288, A450, H⟩ := H
             replace H : (impl_SourceOk.j2 k2 l1_0 (l1_0.length : Int) x42_2 (!t288) l0_0 l0_1 l1_0 l1_1 l1_2) = some r := H
             have A45 := aM_ A450
             clear A450
             have H' := aM_ H
             clear H
             try go_wp2
             have n0 : Aside0 ((((w37.setCell ⟨gb285, 0, none⟩ (.int .i64 ((rd_T86 l1_0 x42_2).f0))).setCell ⟨gb285, 1, none⟩ (.slice A284_1 ((rd_T86 l1_0 x42_2).f1).length c284_1)).setCell ⟨gb285, 2, none⟩ (.int .i64 ((rd_T86 l1_0 x42_2).f2))).heap[gb280]? = some (.cells #[.slice A0_0 l0_0.length c0_0, .slice A0_1 l0_1.length c0_1] 49 (0, 0))) := ⟨by (with_reducible repeat (first | refine bN_ ?_ _ | refine bD_ ?_ | refine bA_ ?_ _)); refine blk_far ?_ NB280_285.out _; (with_reducible repeat (first | refine bN_ ?_ _ | refine bD_ ?_ | refine bA_ ?_ _)); refine blk_far ?_ NB280_285.out _; (with_reducible repeat (first | refine bN_ ?_ _ | refine bD_ ?_ | refine bA_ ?_ _)); refine blk_far ?_ NB280_285.out _; (with_reducible repeat (first | refine bN_ ?_ _ | refine bD_ ?_ | refine bA_ ?_ _)); exact BK280.out⟩
             have n1 : Aside0 ((((w37.setCell ⟨gb285, 0, none⟩ (.int .i64 ((rd_T86 l1_0 x42_2).f0))).setCell ⟨gb285, 1, none⟩ (.slice A284_1 ((rd_T86 l1_0 x42_2).f1).length c284_1)).setCell ⟨gb285, 2, none⟩ (.int .i64 ((rd_T86 l1_0 x42_2).f2))).heap[gb281]? = some (.cells #[.slice (some ad284) l1_0.length c1_0, .slice A1_1 l1_1.length c1_1, .slice A1_2 l1_2.length c1_2] 55 (0, 0))) := ⟨by (with_reducible repeat (first | refine bN_ ?_ _ | refine bD_ ?_ | refine bA_ ?_ _)); refine blk_far ?_ NB281_285.out _; (with_reducible repeat (first | refine bN_ ?_ _ | refine bD_ ?_ | refine bA_ ?_ _)); refine blk_far ?_ NB281_285.out _; (with_reducible repeat (first | refine bN_ ?_ _ | refine bD_ ?_ | refine bA_ ?_ _)); refine blk_far ?_ NB281_285.out _; (with_reducible repeat (first | refine bN_ ?_ _ | refine bD_ ?_ | refine bA_ ?_ _)); exact BK281.out⟩
             have n2 : Aside0 ((((w37.setCell ⟨gb285, 0, none⟩ (.int .i64 ((rd_T86 l1_0 x42_2).f0))).setCell ⟨gb285, 1, none⟩ (.slice A284_1 ((rd_T86 l1_0 x42_2).f1).length c284_1)).setCell ⟨gb285, 2, none⟩ (.int .i64 ((rd_T86 l1_0 x42_2).f2))).heap[gb285]? = some (.cells #[.int .i64 ((rd_T86 l1_0 x42_2).f0), .slice A284_1 ((rd_T86 l1_0 x42_2).f1).length c284_1, .int .i64 ((rd_T86 l1_0 x42_2).f2)] 86 (0, 0))) := ⟨by (with_reducible repeat (first | refine bN_ ?_ _ | refine bD_ ?_ | refine bA_ ?_ _)); refine blk_put (cs := #[.int .i64 ((rd_T86 l1_0 x42_2).f0), .slice A284_1 ((rd_T86 l1_0 x42_2).f1).length c284_1, .int .i64 0]) ?_ 2 _ rfl; (with_reducible repeat (first | refine bN_ ?_ _ | refine bD_ ?_ | refine bA_ ?_ _)); refine blk_put (cs := #[.int .i64 ((rd_T86 l1_0 x42_2).f0), .slice none 0 0, .int .i64 0]) ?_ 1 _ rfl; (with_reducible repeat (first | refine bN_ ?_ _ | refine bD_ ?_ | refine bA_ ?_ _)); refine blk_put (cs := #[.int .i64 0, .slice none 0 0, .int .i64 0]) ?_ 0 _ rfl; (with_reducible repeat (first | refine bN_ ?_ _ | refine bD_ ?_ | refine bA_ ?_ _)); exact BK285.out⟩
             have n3 : Aside0 (Below w.heap.size w (((w37.setCell ⟨gb285, 0, none⟩ (.int .i64 ((rd_T86 l1_0 x42_2).f0))).setCell ⟨gb285, 1, none⟩ (.slice A284_1 ((rd_T86 l1_0 x42_2).f1).length c284_1)).setCell ⟨gb285, 2, none⟩ (.int .i64 ((rd_T86 l1_0 x42_2).f2)))) := ⟨gW_ HB.out⟩
             (try clear BK280)
             (try clear BK281)
             (try clear BK285)
             (try clear HB)
             generalize (((w37.setCell ⟨gb285, 0, none⟩ (.int .i64 ((rd_T86 l1_0 x42_2).f0))).setCell ⟨gb285, 1, none⟩ (.slice A284_1 ((rd_T86 l1_0 x42_2).f1).length c284_1)).setCell ⟨gb285, 2, none⟩ (.int .i64 ((rd_T86 l1_0 x42_2).f2))) = w46 at n0 n1 n2 n3 ⊢
             have BK280 := n0
             have BK281 := n1
             have BK285 := n2
             have HB := n3
             clear n0 n1 n2 n3
             have n0 := aM_ (blk_drew BK280.out)
             have n1 := aM_ (blk_drew BK281.out)
             have n2 := aM_ (blk_drew BK285.out)
             have n3 := aM_ (below_drew1 HB.out)
             clear BK280
             clear BK281
             clear BK285
             clear HB
             have BK280 := n0
             have BK281 := n1
             have BK285 := n2
             have HB := n3
             clear n0 n1 n2 n3
             have p287 : 0 ≤ (x42_2 : Int) := of_decide_eq_true (by first | (with_reducible assumption) | assumption)
             have q287 : x42_2 < (l0_1.length : Int) := of_decide_eq_true (by first | (with_reducible assumption) | assumption)
             obtain ⟨ad287, A287_0, c287_0, e287, hx287_0, hl287_0, hi287_0⟩ := at_L9 HR0_1.out x42_2 p287 q287
             have hw287_0 := hx287_0
             cases e287
             replace hx287_0 := cB_ HB.out hx287_0
             have HR287_0 := aM_ hi287_0
             have HC287_0 := aM_ hl287_0
             clear hi287_0 hl287_0
             replace p287 := eq_true p287
             replace q287 := eq_true q287
             refine start_ (n := 23) (S := fun w' => w'.cell? ⟨gb285, 0, none⟩ = some (.int .i64 ((rd_T86 l1_0 x42_2).f0)) ∧ w'.cell? ⟨gb285, 1, none⟩ = some (.slice A284_1 ((rd_T86 l1_0 x42_2).f1).length c284_1) ∧ w'.cell? ⟨gb285, 2, none⟩ = some (.int .i64 ((rd_T86 l1_0 x42_2).f2)) ∧ w'.cell? ⟨gb280, 0, none⟩ = some (.slice A0_0 l0_0.length c0_0) ∧ w'.cell? ⟨gb280, 1, none⟩ = some (.slice (some ad287) l0_1.length c0_1) ∧ w'.cell? (ad287.add (x42_2).toNat) = some (.slice A287_0 (rd_L9 l0_1 x42_2).length c287_0)) (ds := []) (mk_ 23 0) (by kernel_rfl) rfl rfl ⟨(blk_cell BK285.out 0).trans rfl, (blk_cell BK285.out 1).trans rfl, (blk_cell BK285.out 2).trans rfl, (blk_cell BK280.out 0).trans rfl, (blk_cell BK280.out 1).trans rfl, (cB_ HB.out hw287_0 :)⟩ (fun hHeld => ?_); refine with_tabW impl_SourceOk.tab6 impl_SourceOk.bits6 (fun HT_ HW_ => ?_)
             generalize w46.drew = w47 at BK280 BK281 BK285 HB HR287_0 hx287_0 hHeld ⊢
             refine pU_ 0 (some 47) (mk_ 23 1) ?_
             refine tK6_ 1 (some 48) (mk_ 23 3) ?_
             refine pU_ 2 (some 49) (mk_ 23 7) ?_
             refine pU_ 3 (some 50) (mk_ 23 15) ?_
             refine pU_ 4 (some 51) (mk_ 23 31) ?_
             refine pU_ 5 (some 52) (mk_ 23 63) ?_
             refine tK6_ 6 (some 53) (mk_ 23 127) ?_
             refine oN_ 7 (some 54) (mk_ 23 255) (fun K hK => ?_)
             refine gO_ Try.func49 #[.int .i64 ((rd_T86 l1_0 x42_2).f2), .int .i64 0, .int .i64 2] ?_
             with_reducible refine (impl_within.calls ((rd_T86 l1_0 x42_2).f2) 0 2 true _ A42.out).mono ?_
             rintro e w' ⟨rfl, ⟨nd, rfl⟩⟩
             refine ⟨_, rfl, ?_⟩
             refine hK.out _ _ ⟨(blk_cell BK285.out 0).trans rfl, (blk_cell BK285.out 1).trans rfl, (blk_cell BK285.out 2).trans rfl, (blk_cell BK280.out 0).trans rfl, (blk_cell BK280.out 1).trans rfl, (cB_ HB.out hw287_0 :)⟩ (fun hHeld => ?_)
             clear hK K
             refine norm_ (a' := ?_) ?_ ?_
             rotate_left
             ·show Act.put _ (some 54) _ = _
              simp only [pt_, pn_, sI_, s0_, s1_, i64_w, i32_w]
              rfl
             refine pU_ 8 (some 55) (mk_ 23 511) ?_
             refine pU_ 9 (some 56) (mk_ 23 1023) ?_
             refine pU_ 10 (some 57) (mk_ 23 2047) ?_
             refine pU_ 11 (some 58) (mk_ 23 4095) ?_
             refine pU_ 13 (some 60) (mk_ 23 12287) ?_
             refine pU_ 15 (some 62) (mk_ 23 45055) ?_
             refine tK6_ 12 (some 59) (mk_ 23 49151) ?_
             refine tK6_ 14 (some 61) (mk_ 23 65535) ?_
             refine pU_ 16 (some 63) (mk_ 23 131071) ?_
             refine tK6_ 17 (some 64) (mk_ 23 262143) ?_
             refine pU_ 18 (some 65) (mk_ 23 524287) ?_
             refine pU_ 19 (some 66) (mk_ 23 1048575) ?_
             refine oN_ 20 (some 67) (mk_ 23 2097151) (fun K hK => ?_)
             refine gO_ Try.func49 #[.int .i64 ((rd_T86 l1_0 x42_2).f0), .int .i64 0, .int .i64 (wrap64 (((rd_L9 l0_1 x42_2).length : Int) - 1))] ?_
             with_reducible refine (impl_within.calls ((rd_T86 l1_0 x42_2).f0) 0 (wrap64 (((rd_L9 l0_1 x42_2).length : Int) - 1)) t288 _ A45.out).mono ?_
             rintro e w' ⟨rfl, ⟨nd, rfl⟩⟩
             refine ⟨_, rfl, ?_⟩
             refine hK.out _ _ ⟨(blk_cell BK285.out 0).trans rfl, (blk_cell BK285.out 1).trans rfl, (blk_cell BK285.out 2).trans rfl, (blk_cell BK280.out 0).trans rfl, (blk_cell BK280.out 1).trans rfl, (cB_ HB.out hw287_0 :)⟩ (fun hHeld => ?_)
             clear hK K
             refine norm_ (a' := ?_) ?_ ?_
             rotate_left
             ·show Act.put _ (some 67) _ = _
              simp only [pt_, pn_, sI_, s0_, s1_, i64_w, i32_w]
              rfl
             refine pU_ 21 (some 68) (mk_ 23 4194303) ?_
             refine pU_ 22 (some 69) (mk_ 23 8388607) ?_
             refine done_ (done_of HT_.out (by kernel_rfl)) ?_
             try go_wp2
             go_meet
             case rel => exact ⟨_, (!t288), (by first | rfl | (simp; done) | (simp [*]; done)), H', ⟨by have := HJ2.out; have := HK2.out; first | omega | exact Nat.le_refl _⟩, ⟨rW_ BK280.out⟩, ⟨rW_ BK281.out⟩, ⟨rW_ BK285.out⟩, ⟨gW_ HB.out⟩⟩
            ·rw [if_neg c44] at H
             exact absurd H (by simp)
           ·replace c43 := Bool.eq_false_iff.mpr c43
            subst c43
            have H1 : (impl_SourceOk.j2 k2 l1_0 (l1_0.length : Int) x42_2 true l0_0 l0_1 l1_0 l1_1 l1_2) = some r := by rw [if_neg (show ¬ (false = true) by decide)] at H; exact H
            clear H
            have H := H1
            clear H1
            have H' := aM_ H
            clear H
            try go_wp2
            have n0 : Aside0 ((((w37.setCell ⟨gb285, 0, none⟩ (.int .i64 ((rd_T86 l1_0 x42_2).f0))).setCell ⟨gb285, 1, none⟩ (.slice A284_1 ((rd_T86 l1_0 x42_2).f1).length c284_1)).setCell ⟨gb285, 2, none⟩ (.int .i64 ((rd_T86 l1_0 x42_2).f2))).heap[gb280]? = some (.cells #[.slice A0_0 l0_0.length c0_0, .slice A0_1 l0_1.length c0_1] 49 (0, 0))) := ⟨by (with_reducible repeat (first | refine bN_ ?_ _ | refine bD_ ?_ | refine bA_ ?_ _)); refine blk_far ?_ NB280_285.out _; (with_reducible repeat (first | refine bN_ ?_ _ | refine bD_ ?_ | refine bA_ ?_ _)); refine blk_far ?_ NB280_285.out _; (with_reducible repeat (first | refine bN_ ?_ _ | refine bD_ ?_ | refine bA_ ?_ _)); refine blk_far ?_ NB280_285.out _; (with_reducible repeat (first | refine bN_ ?_ _ | refine bD_ ?_ | refine bA_ ?_ _)); exact BK280.out⟩
            have n1 : Aside0 ((((w37.setCell ⟨gb285, 0, none⟩ (.int .i64 ((rd_T86 l1_0 x42_2).f0))).setCell ⟨gb285, 1, none⟩ (.slice A284_1 ((rd_T86 l1_0 x42_2).f1).length c284_1)).setCell ⟨gb285, 2, none⟩ (.int .i64 ((rd_T86 l1_0 x42_2).f2))).heap[gb281]? = some (.cells #[.slice (some ad284) l1_0.length c1_0, .slice A1_1 l1_1.length c1_1, .slice A1_2 l1_2.length c1_2] 55 (0, 0))) := ⟨by (with_reducible repeat (first | refine bN_ ?_ _ | refine bD_ ?_ | refine bA_ ?_ _)); refine blk_far ?_ NB281_285.out _; (with_reducible repeat (first | refine bN_ ?_ _ | refine bD_ ?_ | refine bA_ ?_ _)); refine blk_far ?_ NB281_285.out _; (with_reducible repeat (first | refine bN_ ?_ _ | refine bD_ ?_ | refine bA_ ?_ _)); refine blk_far ?_ NB281_285.out _; (with_reducible repeat (first | refine bN_ ?_ _ | refine bD_ ?_ | refine bA_ ?_ _)); exact BK281.out⟩
            have n2 : Aside0 ((((w37.setCell ⟨gb285, 0, none⟩ (.int .i64 ((rd_T86 l1_0 x42_2).f0))).setCell ⟨gb285, 1, none⟩ (.slice A284_1 ((rd_T86 l1_0 x42_2).f1).length c284_1)).setCell ⟨gb285, 2, none⟩ (.int .i64 ((rd_T86 l1_0 x42_2).f2))).heap[gb285]? = some (.cells #[.int .i64 ((rd_T86 l1_0 x42_2).f0), .slice A284_1 ((rd_T86 l1_0 x42_2).f1).length c284_1, .int .i64 ((rd_T86 l1_0 x42_2).f2)] 86 (0, 0))) := ⟨by (with_reducible repeat (first | refine bN_ ?_ _ | refine bD_ ?_ | refine bA_ ?_ _)); refine blk_put (cs := #[.int .i64 ((rd_T86 l1_0 x42_2).f0), .slice A284_1 ((rd_T86 l1_0 x42_2).f1).length c284_1, .int .i64 0]) ?_ 2 _ rfl; (with_reducible repeat (first | refine bN_ ?_ _ | refine bD_ ?_ | refine bA_ ?_ _)); refine blk_put (cs := #[.int .i64 ((rd_T86 l1_0 x42_2).f0), .slice none 0 0, .int .i64 0]) ?_ 1 _ rfl; (with_reducible repeat (first | refine bN_ ?_ _ | refine bD_ ?_ | refine bA_ ?_ _)); refine blk_put (cs := #[.int .i64 0, .slice none 0 0, .int .i64 0]) ?_ 0 _ rfl; (with_reducible repeat (first | refine bN_ ?_ _ | refine bD_ ?_ | refine bA_ ?_ _)); exact BK285.out⟩
            have n3 : Aside0 (Below w.heap.size w (((w37.setCell ⟨gb285, 0, none⟩ (.int .i64 ((rd_T86 l1_0 x42_2).f0))).setCell ⟨gb285, 1, none⟩ (.slice A284_1 ((rd_T86 l1_0 x42_2).f1).length c284_1)).setCell ⟨gb285, 2, none⟩ (.int .i64 ((rd_T86 l1_0 x42_2).f2)))) := ⟨gW_ HB.out⟩
            (try clear BK280)
            (try clear BK281)
            (try clear BK285)
            (try clear HB)
            generalize (((w37.setCell ⟨gb285, 0, none⟩ (.int .i64 ((rd_T86 l1_0 x42_2).f0))).setCell ⟨gb285, 1, none⟩ (.slice A284_1 ((rd_T86 l1_0 x42_2).f1).length c284_1)).setCell ⟨gb285, 2, none⟩ (.int .i64 ((rd_T86 l1_0 x42_2).f2))) = w48 at n0 n1 n2 n3 ⊢
            have BK280 := n0
            have BK281 := n1
            have BK285 := n2
            have HB := n3
            clear n0 n1 n2 n3
            have n0 := aM_ (blk_drew BK280.out)
            have n1 := aM_ (blk_drew BK281.out)
            have n2 := aM_ (blk_drew BK285.out)
            have n3 := aM_ (below_drew1 HB.out)
            clear BK280
            clear BK281
            clear BK285
            clear HB
            have BK280 := n0
            have BK281 := n1
            have BK285 := n2
            have HB := n3
            clear n0 n1 n2 n3
            refine start_ (n := 23) (S := fun w' => w'.cell? ⟨gb285, 0, none⟩ = some (.int .i64 ((rd_T86 l1_0 x42_2).f0)) ∧ w'.cell? ⟨gb285, 1, none⟩ = some (.slice A284_1 ((rd_T86 l1_0 x42_2).f1).length c284_1) ∧ w'.cell? ⟨gb285, 2, none⟩ = some (.int .i64 ((rd_T86 l1_0 x42_2).f2))) (ds := []) (mk_ 23 0) (by kernel_rfl) rfl rfl ⟨(blk_cell BK285.out 0).trans rfl, (blk_cell BK285.out 1).trans rfl, (blk_cell BK285.out 2).trans rfl⟩ (fun hHeld => ?_); refine with_tabW impl_SourceOk.tab6 impl_SourceOk.bits6 (fun HT_ HW_ => ?_)
            generalize w48.drew = w49 at BK280 BK281 BK285 HB hHeld ⊢
            refine pU_ 0 (some 47) (mk_ 23 1) ?_
            refine tK3_ 1 (some 48) (mk_ 23 3) ?_
            refine pU_ 2 (some 49) (mk_ 23 7) ?_
            refine pU_ 3 (some 50) (mk_ 23 15) ?_
            refine pU_ 4 (some 51) (mk_ 23 31) ?_
            refine pU_ 5 (some 52) (mk_ 23 63) ?_
            refine tK3_ 6 (some 53) (mk_ 23 127) ?_
            refine oN_ 7 (some 54) (mk_ 23 255) (fun K hK => ?_)
            refine gO_ Try.func49 #[.int .i64 ((rd_T86 l1_0 x42_2).f2), .int .i64 0, .int .i64 2] ?_
            with_reducible refine (impl_within.calls ((rd_T86 l1_0 x42_2).f2) 0 2 false _ A42.out).mono ?_
            rintro e w' ⟨rfl, ⟨nd, rfl⟩⟩
            refine ⟨_, rfl, ?_⟩
            refine hK.out _ _ ⟨(blk_cell BK285.out 0).trans rfl, (blk_cell BK285.out 1).trans rfl, (blk_cell BK285.out 2).trans rfl⟩ (fun hHeld => ?_)
            clear hK K
            refine norm_ (a' := ?_) ?_ ?_
            rotate_left
            ·show Act.put _ (some 54) _ = _
             simp only [pt_, pn_, sI_, s0_, s1_, i64_w, i32_w]
             rfl
            refine pU_ 8 (some 55) (mk_ 23 511) ?_
            refine pU_ 9 (some 56) (mk_ 23 1023) ?_
            refine pU_ 10 (some 57) (mk_ 23 2047) ?_
            refine pX_ 11 (some 58) (mk_ 23 4095) ?_
            refine pX_ 12 (some 59) (mk_ 23 8191) ?_
            refine pX_ 13 (some 60) (mk_ 23 16383) ?_
            refine pX_ 14 (some 61) (mk_ 23 32767) ?_
            refine pX_ 15 (some 62) (mk_ 23 65535) ?_
            refine pX_ 16 (some 63) (mk_ 23 131071) ?_
            refine pX_ 17 (some 64) (mk_ 23 262143) ?_
            refine pX_ 18 (some 65) (mk_ 23 524287) ?_
            refine pX_ 19 (some 66) (mk_ 23 1048575) ?_
            refine pX_ 20 (some 67) (mk_ 23 2097151) ?_
            refine pX_ 21 (some 68) (mk_ 23 4194303) ?_
            refine pU_ 22 (some 69) (mk_ 23 8388607) ?_
            refine done_ (done_of HT_.out (by kernel_rfl)) ?_
            try go_wp2
            go_meet
            case rel => exact ⟨_, (true), (by first | rfl | (simp; done) | (simp [*]; done)), H', ⟨by have := HJ2.out; have := HK2.out; first | omega | exact Nat.le_refl _⟩, ⟨rW_ BK280.out⟩, ⟨rW_ BK281.out⟩, ⟨rW_ BK285.out⟩, ⟨gW_ HB.out⟩⟩
          ·rw [if_neg c41] at H
           have c41b0 : ((((rd_T86 l1_0 x42_2).f1).length : Int) == 4) = false := beq_eq_false_iff_ne.mpr c41
           have c41b1 : ((((rd_T86 l1_0 x42_2).f1).length : Int) != 4) = true := bne_iff_ne.mpr c41
           (first | rw [c41b0] | (simp only [i64_w, i32_w]; rw [c41b0]) | skip)
           have H' := aM_ H
           clear H
           try go_wp2
           have n0 : Aside0 ((((w37.setCell ⟨gb285, 0, none⟩ (.int .i64 ((rd_T86 l1_0 x42_2).f0))).setCell ⟨gb285, 1, none⟩ (.slice A284_1 ((rd_T86 l1_0 x42_2).f1).length c284_1)).setCell ⟨gb285, 2, none⟩ (.int .i64 ((rd_T86 l1_0 x42_2).f2))).heap[gb280]? = some (.cells #[.slice A0_0 l0_0.length c0_0, .slice A0_1 l0_1.length c0_1] 49 (0, 0))) := ⟨by (with_reducible repeat (first | refine bN_ ?_ _ | refine bD_ ?_ | refine bA_ ?_ _)); refine blk_far ?_ NB280_285.out _; (with_reducible repeat (first | refine bN_ ?_ _ | refine bD_ ?_ | refine bA_ ?_ _)); refine blk_far ?_ NB280_285.out _; (with_reducible repeat (first | refine bN_ ?_ _ | refine bD_ ?_ | refine bA_ ?_ _)); refine blk_far ?_ NB280_285.out _; (with_reducible repeat (first | refine bN_ ?_ _ | refine bD_ ?_ | refine bA_ ?_ _)); exact BK280.out⟩
           have n1 : Aside0 ((((w37.setCell ⟨gb285, 0, none⟩ (.int .i64 ((rd_T86 l1_0 x42_2).f0))).setCell ⟨gb285, 1, none⟩ (.slice A284_1 ((rd_T86 l1_0 x42_2).f1).length c284_1)).setCell ⟨gb285, 2, none⟩ (.int .i64 ((rd_T86 l1_0 x42_2).f2))).heap[gb281]? = some (.cells #[.slice (some ad284) l1_0.length c1_0, .slice A1_1 l1_1.length c1_1, .slice A1_2 l1_2.length c1_2] 55 (0, 0))) := ⟨by (with_reducible repeat (first | refine bN_ ?_ _ | refine bD_ ?_ | refine bA_ ?_ _)); refine blk_far ?_ NB281_285.out _; (with_reducible repeat (first | refine bN_ ?_ _ | refine bD_ ?_ | refine bA_ ?_ _)); refine blk_far ?_ NB281_285.out _; (with_reducible repeat (first | refine bN_ ?_ _ | refine bD_ ?_ | refine bA_ ?_ _)); refine blk_far ?_ NB281_285.out _; (with_reducible repeat (first | refine bN_ ?_ _ | refine bD_ ?_ | refine bA_ ?_ _)); exact BK281.out⟩
           have n2 : Aside0 ((((w37.setCell ⟨gb285, 0, none⟩ (.int .i64 ((rd_T86 l1_0 x42_2).f0))).setCell ⟨gb285, 1, none⟩ (.slice A284_1 ((rd_T86 l1_0 x42_2).f1).length c284_1)).setCell ⟨gb285, 2, none⟩ (.int .i64 ((rd_T86 l1_0 x42_2).f2))).heap[gb285]? = some (.cells #[.int .i64 ((rd_T86 l1_0 x42_2).f0), .slice A284_1 ((rd_T86 l1_0 x42_2).f1).length c284_1, .int .i64 ((rd_T86 l1_0 x42_2).f2)] 86 (0, 0))) := ⟨by (with_reducible repeat (first | refine bN_ ?_ _ | refine bD_ ?_ | refine bA_ ?_ _)); refine blk_put (cs := #[.int .i64 ((rd_T86 l1_0 x42_2).f0), .slice A284_1 ((rd_T86 l1_0 x42_2).f1).length c284_1, .int .i64 0]) ?_ 2 _ rfl; (with_reducible repeat (first | refine bN_ ?_ _ | refine bD_ ?_ | refine bA_ ?_ _)); refine blk_put (cs := #[.int .i64 ((rd_T86 l1_0 x42_2).f0), .slice none 0 0, .int .i64 0]) ?_ 1 _ rfl; (with_reducible repeat (first | refine bN_ ?_ _ | refine bD_ ?_ | refine bA_ ?_ _)); refine blk_put (cs := #[.int .i64 0, .slice none 0 0, .int .i64 0]) ?_ 0 _ rfl; (with_reducible repeat (first | refine bN_ ?_ _ | refine bD_ ?_ | refine bA_ ?_ _)); exact BK285.out⟩
           have n3 : Aside0 (Below w.heap.size w (((w37.setCell ⟨gb285, 0, none⟩ (.int .i64 ((rd_T86 l1_0 x42_2).f0))).setCell ⟨gb285, 1, none⟩ (.slice A284_1 ((rd_T86 l1_0 x42_2).f1).length c284_1)).setCell ⟨gb285, 2, none⟩ (.int .i64 ((rd_T86 l1_0 x42_2).f2)))) := ⟨gW_ HB.out⟩
           (try clear BK280)
           (try clear BK281)
           (try clear BK285)
           (try clear HB)
           generalize (((w37.setCell ⟨gb285, 0, none⟩ (.int .i64 ((rd_T86 l1_0 x42_2).f0))).setCell ⟨gb285, 1, none⟩ (.slice A284_1 ((rd_T86 l1_0 x42_2).f1).length c284_1)).setCell ⟨gb285, 2, none⟩ (.int .i64 ((rd_T86 l1_0 x42_2).f2))) = w50 at n0 n1 n2 n3 ⊢
           have BK280 := n0
           have BK281 := n1
           have BK285 := n2
           have HB := n3
           clear n0 n1 n2 n3
           have n0 := aM_ (blk_drew BK280.out)
           have n1 := aM_ (blk_drew BK281.out)
           have n2 := aM_ (blk_drew BK285.out)
           have n3 := aM_ (below_drew1 HB.out)
           clear BK280
           clear BK281
           clear BK285
           clear HB
           have BK280 := n0
           have BK281 := n1
           have BK285 := n2
           have HB := n3
           clear n0 n1 n2 n3
           refine start_ (n := 23) (S := fun w' => w'.cell? ⟨gb285, 0, none⟩ = some (.int .i64 ((rd_T86 l1_0 x42_2).f0)) ∧ w'.cell? ⟨gb285, 1, none⟩ = some (.slice A284_1 ((rd_T86 l1_0 x42_2).f1).length c284_1) ∧ w'.cell? ⟨gb285, 2, none⟩ = some (.int .i64 ((rd_T86 l1_0 x42_2).f2))) (ds := []) (mk_ 23 0) (by kernel_rfl) rfl rfl ⟨(blk_cell BK285.out 0).trans rfl, (blk_cell BK285.out 1).trans rfl, (blk_cell BK285.out 2).trans rfl⟩ (fun hHeld => ?_); refine with_tabW impl_SourceOk.tab6 impl_SourceOk.bits6 (fun HT_ HW_ => ?_)
           generalize w50.drew = w51 at BK280 BK281 BK285 HB hHeld ⊢
           refine pU_ 0 (some 47) (mk_ 23 1) ?_
           refine tK3_ 1 (some 48) (mk_ 23 3) ?_
           refine pU_ 2 (some 49) (mk_ 23 7) ?_
           refine pU_ 3 (some 50) (mk_ 23 15) ?_
           refine pU_ 4 (some 51) (mk_ 23 31) ?_
           refine pX_ 5 (some 52) (mk_ 23 63) ?_
           refine pX_ 6 (some 53) (mk_ 23 127) ?_
           refine pX_ 7 (some 54) (mk_ 23 255) ?_
           refine pX_ 8 (some 55) (mk_ 23 511) ?_
           refine pU_ 9 (some 56) (mk_ 23 1023) ?_
           refine pU_ 10 (some 57) (mk_ 23 2047) ?_
           refine pX_ 11 (some 58) (mk_ 23 4095) ?_
           refine pX_ 12 (some 59) (mk_ 23 8191) ?_
           refine pX_ 13 (some 60) (mk_ 23 16383) ?_
           refine pX_ 14 (some 61) (mk_ 23 32767) ?_
           refine pX_ 15 (some 62) (mk_ 23 65535) ?_
           refine pX_ 16 (some 63) (mk_ 23 131071) ?_
           refine pX_ 17 (some 64) (mk_ 23 262143) ?_
           refine pX_ 18 (some 65) (mk_ 23 524287) ?_
           refine pX_ 19 (some 66) (mk_ 23 1048575) ?_
           refine pX_ 20 (some 67) (mk_ 23 2097151) ?_
           refine pX_ 21 (some 68) (mk_ 23 4194303) ?_
           refine pU_ 22 (some 69) (mk_ 23 8388607) ?_
           refine done_ (done_of HT_.out (by kernel_rfl)) ?_
           try go_wp2
           go_meet
           case rel => exact ⟨_, (true), (by first | rfl | (simp; done) | (simp [*]; done)), H', ⟨by have := HJ2.out; have := HK2.out; first | omega | exact Nat.le_refl _⟩, ⟨rW_ BK280.out⟩, ⟨rW_ BK281.out⟩, ⟨rW_ BK285.out⟩, ⟨gW_ HB.out⟩⟩
         case rest =>
          clear HC36
          try clear c1
          try clear c2
          try clear p2
          try clear q2
          try clear hx2
          try clear c4
          try clear p6
          try clear c28
          try clear p28
          try clear q28
          try clear hx28
          try clear c41
          try clear c41b0
          try clear c41b1
          try clear c43
          try clear c44
          try clear c44b0
          try clear c49
          try clear hx287_0
          try clear p287
          try clear q287
          obtain ⟨kq, x69_35, rfl, HA, HJ35, BK280, BK281, BK285, HB⟩ := hcut
          cases kq with
          | zero => exact absurd HA.out (by simp [impl_SourceOk.j2])
          | succ kj35 =>
           have H := HA.out
           clear HA
           simp only [impl_SourceOk.j2] at H
           by_cases c52 : x69_35 = true
           ·subst c52
            have H1 : (some false) = some r := by rw [if_pos rfl] at H; exact H
            clear H
            have H := H1
            clear H1
            obtain rfl := Option.some.inj H
            go_wp2
            go_ret
            exact fI_ HB.out
           ·replace c52 := Bool.eq_false_iff.mpr c52
            subst c52
            have H1 : (impl_SourceOk.l0 kj35 l1_0 (l1_0.length : Int) (wrap64 (x42_2 + 1)) l0_0 l0_1 l1_0 l1_1 l1_2) = some r := by rw [if_neg (show ¬ (false = true) by decide)] at H; exact H
            clear H
            have H := H1
            clear H1
            have H' := aM_ H
            clear H
            go_wp2
            go_roundg kj35
            case measure => have := HJ2.out; have := HK2.out; have := HJ35.out; omega
            case rel => exact ⟨(wrap64 (x42_2 + 1)), (by first | rfl | (simp; done) | (simp [*]; done)), H', ⟨by have := HJ2.out; have := HK2.out; have := HJ35.out; omega⟩, ⟨rW_ BK280.out⟩, ⟨rW_ BK281.out⟩, ⟨gW_ HB.out⟩⟩
        ·rw [if_neg c35] at H
         exact absurd H (by simp)
       ·rw [if_neg c34] at H
        exact absurd H (by simp)
      ·rw [if_neg c33] at H
       have c33b0 : decide (x42_2 < (l1_0.length : Int)) = false := decide_eq_false c33
       clear c33
       have H' := aM_ H
       clear H
       have hnb53 := NB281_280.out
       have hnc53 := NB280_281.out
       obtain ⟨hcz54_0, hcz54_1, hcz54_2, hfz54_0, hfz54_1, hfz54_2⟩ := bR3_ BK281.out
       go_wp2
       go_loopg [74] k2 (fun kq v74 w' => ∃ (x74_3 : Int), v74 = .int .i64 x74_3 ∧ Aside0 (impl_SourceOk.l1 kq l1_1 (l1_1.length : Int) x74_3 l0_0 l0_1 = some r) ∧ Aside0 (kq ≤ k2) ∧ Aside0 (w'.heap[gb280]? = some (.cells #[(.slice A0_0 l0_0.length c0_0), (.slice A0_1 l0_1.length c0_1)] 49 (0, 0))) ∧ Aside0 (w'.heap[gb281]? = some (.cells #[(.slice A1_0 l1_0.length c1_0), (.slice A1_1 l1_1.length c1_1), (.slice A1_2 l1_2.length c1_2)] 55 (0, 0))) ∧ Aside0 (Below w.heap.size w w'))
       case atStart => exact ⟨(0), (by first | rfl | (simp; done) | (simp [*]; done)), H', ⟨Nat.le_refl _⟩, ⟨rW_ BK280.out⟩, ⟨rW_ BK281.out⟩, ⟨gW_ HB.out⟩⟩
       case round =>
        clear H'
        try clear c1
        try clear c2
        try clear p2
        try clear q2
        try clear hx2
        try clear c3
        try clear c4
        try clear c5
        try clear p6
        try clear c28
        try clear p28
        try clear q28
        try clear hx28
        try clear c33
        try clear c33b0
        try clear c34
        try clear c35
        try clear c41
        try clear c41b0
        try clear c41b1
        try clear c43
        try clear c44
        try clear c44b0
        try clear c49
        try clear c52
        try clear c53
        try clear hcz54_0
        try clear hcz54_1
        try clear hcz54_2
        try clear hfz54_0
        try clear hfz54_1
        try clear hfz54_2
        try clear hx287_0
        try clear p2
        try clear p28
        try clear p287
        try clear p6
        try clear q2
        try clear q28
        try clear q287
        obtain ⟨x74_3, rfl, HA, HK3, BK280, BK281, HB⟩ := hrel
        cases gk with
        | zero => exact absurd HA.out (by simp [impl_SourceOk.l1])
        | succ k3 =>
         have H := HA.out
         clear HA
         simp only [impl_SourceOk.l1] at H
         by_cases c55 : x74_3 < (l1_1.length : Int)
         ·rw [if_pos c55] at H
          have c55b0 : decide (x74_3 < (l1_1.length : Int)) = true := decide_eq_true c55
          clear c55
          by_cases c56 : 0 ≤ x74_3
          ·rw [if_pos c56] at H
           have c56b0 : decide (0 ≤ x74_3) = true := decide_eq_true c56
           clear c56
           by_cases c57 : x74_3 < (l1_1.length : Int)
           ·rw [if_pos c57] at H
            have c57b0 : decide (x74_3 < (l1_1.length : Int)) = true := decide_eq_true c57
            clear c57
            replace H := Option.bind_eq_some_iff.mp H
            obtain ⟨t291, A580, H⟩ := H
            replace H : (if t291 = true then (if x74_3 < (l0_0.length : Int) then (if ((rd_T91 l1_1 x74_3).f0) = (rd l0_0 x74_3) then (impl_SourceOk.l1 k3 l1_1 (l1_1.length : Int) (wrap64 (x74_3 + 1)) l0_0 l0_1) else (some false)) else (none)) else (some false)) = some r := H
            have A58 := aM_ A580
            clear A580
            by_cases c59 : t291 = true
            ·subst c59
             have H1 : (if x74_3 < (l0_0.length : Int) then (if ((rd_T91 l1_1 x74_3).f0) = (rd l0_0 x74_3) then (impl_SourceOk.l1 k3 l1_1 (l1_1.length : Int) (wrap64 (x74_3 + 1)) l0_0 l0_1) else (some false)) else (none)) = some r := by rw [if_pos rfl] at H; exact H
             clear H
             have H := H1
             clear H1
             by_cases c60 : x74_3 < (l0_0.length : Int)
             ·rw [if_pos c60] at H
              have c60b0 : decide (x74_3 < (l0_0.length : Int)) = true := decide_eq_true c60
              clear c60
              by_cases c61 : ((rd_T91 l1_1 x74_3).f0) = (rd l0_0 x74_3)
              ·rw [if_pos c61] at H
               have c61b0 : (((rd_T91 l1_1 x74_3).f0) == (rd l0_0 x74_3)) = true := beq_iff_eq.mpr c61
               have c61b1 : (((rd_T91 l1_1 x74_3).f0) != (rd l0_0 x74_3)) = false := bne_eq_false_iff_eq.mpr c61
               clear c61
               have H' := aM_ H
               clear H
               have p289 : 0 ≤ (x74_3 : Int) := of_decide_eq_true (by first | (with_reducible assumption) | assumption)
               have q289 : x74_3 < (l1_1.length : Int) := of_decide_eq_true (by first | (with_reducible assumption) | assumption)
               obtain ⟨ad289, A289_1, c289_1, e289, hx289_0, hx289_1, hx289_2, hl289_1, hi289_1⟩ := at_T91 HR1_1.out x74_3 p289 q289
               cases e289
               replace hx289_0 := cB_ HB.out hx289_0
               replace hx289_1 := cB_ HB.out hx289_1
               replace hx289_2 := cB_ HB.out hx289_2
               have HR289_1 := aM_ hi289_1
               have HC289_1 := aM_ hl289_1
               clear hi289_1 hl289_1
               replace p289 := eq_true p289
               replace q289 := eq_true q289
               try go_wp2_with (first | ((with_reducible refine gate_dst (N := 8) rfl ?_); (try (refine gate_guard (by rfl) ?_; dsimp only)); refine bX_ 8 (cs := #[.int .i64 0, .slice none 0 0, .bool false]) (t := 91) ?_; intro gb290 hg w62 hbox hb; have n0 := aM_ (nB_ BK280.out hb); have n1 := aM_ (nB_ BK281.out hb); have n2 := aM_ (sT_ HB.out hb); have n3 := aM_ (hbox); have n4 := aM_ (sZ_ hg HB.out); have n5 := aM_ (sZ_ hg HB.out); have n6 := aM_ (nL_ hg BK280.out); have n7 := aM_ (nG_ hg BK280.out); have n8 := aM_ (nL_ hg BK281.out); have n9 := aM_ (nG_ hg BK281.out); clear BK280; clear BK281; clear HB; have BK280 := n0; have BK281 := n1; have HB := n2; have BK290 := n3; have GW290 := n4; have GE290 := n5; have NB280_290 := n6; have NB290_280 := n7; have NB281_290 := n8; have NB290_281 := n9; clear n0 n1 n2 n3 n4 n5 n6 n7 n8 n9; clear hb hbox hg; have hnb63 := NB290_280.out; have hnc63 := NB280_290.out; have hnb64 := NB290_281.out; have hnc64 := NB281_290.out; obtain ⟨hcz65_0, hcz65_1, hcz65_2, hfz65_0, hfz65_1, hfz65_2⟩ := bR3_ BK290.out))
               have n0 : Aside0 ((((w62.setCell ⟨gb290, 0, none⟩ (.int .i64 ((rd_T91 l1_1 x74_3).f0))).setCell ⟨gb290, 1, none⟩ (.slice A289_1 ((rd_T91 l1_1 x74_3).f1).length c289_1)).setCell ⟨gb290, 2, none⟩ (.bool ((rd_T91 l1_1 x74_3).f2))).heap[gb280]? = some (.cells #[.slice A0_0 l0_0.length c0_0, .slice A0_1 l0_1.length c0_1] 49 (0, 0))) := ⟨by (with_reducible repeat (first | refine bN_ ?_ _ | refine bD_ ?_ | refine bA_ ?_ _)); refine blk_far ?_ NB280_290.out _; (with_reducible repeat (first | refine bN_ ?_ _ | refine bD_ ?_ | refine bA_ ?_ _)); refine blk_far ?_ NB280_290.out _; (with_reducible repeat (first | refine bN_ ?_ _ | refine bD_ ?_ | refine bA_ ?_ _)); refine blk_far ?_ NB280_290.out _; (with_reducible repeat (first | refine bN_ ?_ _ | refine bD_ ?_ | refine bA_ ?_ _)); exact BK280.out⟩
               have n1 : Aside0 ((((w62.setCell ⟨gb290, 0, none⟩ (.int .i64 ((rd_T91 l1_1 x74_3).f0))).setCell ⟨gb290, 1, none⟩ (.slice A289_1 ((rd_T91 l1_1 x74_3).f1).length c289_1)).setCell ⟨gb290, 2, none⟩ (.bool ((rd_T91 l1_1 x74_3).f2))).heap[gb281]? = some (.cells #[.slice A1_0 l1_0.length c1_0, .slice (some ad289) l1_1.length c1_1, .slice A1_2 l1_2.length c1_2] 55 (0, 0))) := ⟨by (with_reducible repeat (first | refine bN_ ?_ _ | refine bD_ ?_ | refine bA_ ?_ _)); refine blk_far ?_ NB281_290.out _; (with_reducible repeat (first | refine bN_ ?_ _ | refine bD_ ?_ | refine bA_ ?_ _)); refine blk_far ?_ NB281_290.out _; (with_reducible repeat (first | refine bN_ ?_ _ | refine bD_ ?_ | refine bA_ ?_ _)); refine blk_far ?_ NB281_290.out _; (with_reducible repeat (first | refine bN_ ?_ _ | refine bD_ ?_ | refine bA_ ?_ _)); exact BK281.out⟩
               have n2 : Aside0 ((((w62.setCell ⟨gb290, 0, none⟩ (.int .i64 ((rd_T91 l1_1 x74_3).f0))).setCell ⟨gb290, 1, none⟩ (.slice A289_1 ((rd_T91 l1_1 x74_3).f1).length c289_1)).setCell ⟨gb290, 2, none⟩ (.bool ((rd_T91 l1_1 x74_3).f2))).heap[gb290]? = some (.cells #[.int .i64 ((rd_T91 l1_1 x74_3).f0), .slice A289_1 ((rd_T91 l1_1 x74_3).f1).length c289_1, .bool ((rd_T91 l1_1 x74_3).f2)] 91 (0, 0))) := ⟨by (with_reducible repeat (first | refine bN_ ?_ _ | refine bD_ ?_ | refine bA_ ?_ _)); refine blk_put (cs := #[.int .i64 ((rd_T91 l1_1 x74_3).f0), .slice A289_1 ((rd_T91 l1_1 x74_3).f1).length c289_1, .bool false]) ?_ 2 _ rfl; (with_reducible repeat (first | refine bN_ ?_ _ | refine bD_ ?_ | refine bA_ ?_ _)); refine blk_put (cs := #[.int .i64 ((rd_T91 l1_1 x74_3).f0), .slice none 0 0, .bool false]) ?_ 1 _ rfl; (with_reducible repeat (first | refine bN_ ?_ _ | refine bD_ ?_ | refine bA_ ?_ _)); refine blk_put (cs := #[.int .i64 0, .slice none 0 0, .bool false]) ?_ 0 _ rfl; (with_reducible repeat (first | refine bN_ ?_ _ | refine bD_ ?_ | refine bA_ ?_ _)); exact BK290.out⟩
               have n3 : Aside0 (Below w.heap.size w (((w62.setCell ⟨gb290, 0, none⟩ (.int .i64 ((rd_T91 l1_1 x74_3).f0))).setCell ⟨gb290, 1, none⟩ (.slice A289_1 ((rd_T91 l1_1 x74_3).f1).length c289_1)).setCell ⟨gb290, 2, none⟩ (.bool ((rd_T91 l1_1 x74_3).f2)))) := ⟨gW_ HB.out⟩
               (try clear BK280)
               (try clear BK281)
               (try clear BK290)
               (try clear HB)
               generalize (((w62.setCell ⟨gb290, 0, none⟩ (.int .i64 ((rd_T91 l1_1 x74_3).f0))).setCell ⟨gb290, 1, none⟩ (.slice A289_1 ((rd_T91 l1_1 x74_3).f1).length c289_1)).setCell ⟨gb290, 2, none⟩ (.bool ((rd_T91 l1_1 x74_3).f2))) = w66 at n0 n1 n2 n3 ⊢
               have BK280 := n0
               have BK281 := n1
               have BK290 := n2
               have HB := n3
               clear n0 n1 n2 n3
               have n0 := aM_ (blk_drew BK280.out)
               have n1 := aM_ (blk_drew BK281.out)
               have n2 := aM_ (blk_drew BK290.out)
               have n3 := aM_ (below_drew1 HB.out)
               clear BK280
               clear BK281
               clear BK290
               clear HB
               have BK280 := n0
               have BK281 := n1
               have BK290 := n2
               have HB := n3
               clear n0 n1 n2 n3
               have p292 : 0 ≤ (x74_3 : Int) := of_decide_eq_true (by first | (with_reducible assumption) | assumption)
               have q292 : x74_3 < (l0_0.length : Int) := of_decide_eq_true (by first | (with_reducible assumption) | assumption)
               obtain ⟨ad292, e292, hx292_0⟩ := Kd.at_int HR0_0.out x74_3 p292 q292
               have hw292_0 := hx292_0
               cases e292
               replace hx292_0 := cB_ HB.out hx292_0
               replace p292 := eq_true p292
               replace q292 := eq_true q292
               refine start_ (n := 13) (S := fun w' => w'.cell? ⟨gb290, 0, none⟩ = some (.int .i64 ((rd_T91 l1_1 x74_3).f0)) ∧ w'.cell? ⟨gb290, 1, none⟩ = some (.slice A289_1 ((rd_T91 l1_1 x74_3).f1).length c289_1) ∧ w'.cell? ⟨gb290, 2, none⟩ = some (.bool ((rd_T91 l1_1 x74_3).f2)) ∧ w'.cell? ⟨gb280, 0, none⟩ = some (.slice (some ad292) l0_0.length c0_0) ∧ w'.cell? ⟨gb280, 1, none⟩ = some (.slice A0_1 l0_1.length c0_1) ∧ w'.cell? (ad292.add (x74_3).toNat) = some (.int .i64 (rd l0_0 x74_3))) (ds := []) (mk_ 13 0) (by kernel_rfl) rfl rfl ⟨(blk_cell BK290.out 0).trans rfl, (blk_cell BK290.out 1).trans rfl, (blk_cell BK290.out 2).trans rfl, (blk_cell BK280.out 0).trans rfl, (blk_cell BK280.out 1).trans rfl, (cB_ HB.out hw292_0 :)⟩ (fun hHeld => ?_); refine with_tabW impl_SourceOk.tab12 impl_SourceOk.bits12 (fun HT_ HW_ => ?_)
               generalize w66.drew = w67 at BK280 BK281 BK290 HB hx292_0 hHeld ⊢
               refine tK6_ 0 (some 79) (mk_ 13 1) ?_
               refine oN_ 1 (some 80) (mk_ 13 3) (fun K hK => ?_)
               refine gO_ Try.func50 #[.agg #[.int .i64 ((rd_T91 l1_1 x74_3).f0), .slice A289_1 ((rd_T91 l1_1 x74_3).f1).length c289_1, .bool ((rd_T91 l1_1 x74_3).f2)]] ?_
               with_reducible refine (impl_ChanOk.calls ((rd_T91 l1_1 x74_3).f0) _ _ ((rd_T91 l1_1 x74_3).f1) ((rd_T91 l1_1 x74_3).f2) true _ ?side1 ?side2 A58.out).mono ?_
               (case side1 => exact cS_ (Kd.C_below HR289_1.out HB.out))
               (case side2 => exact HC289_1.out)
               rintro e w68 ⟨rfl, hb⟩
               refine ⟨_, rfl, ?_⟩
               have n0 := aM_ (nB_ BK280.out hb)
               have n1 := aM_ (nB_ BK281.out hb)
               have n2 := aM_ (nB_ BK290.out hb)
               have n3 := aM_ (sT_ HB.out hb)
               clear BK280
               clear BK281
               clear BK290
               clear HB
               have BK280 := n0
               have BK281 := n1
               have BK290 := n2
               have HB := n3
               clear n0 n1 n2 n3
               (try clear hb)
               (try clear hb2)
               (try clear hk)
               (try clear hi)
               refine hK.out _ _ ⟨(blk_cell BK290.out 0).trans rfl, (blk_cell BK290.out 1).trans rfl, (blk_cell BK290.out 2).trans rfl, (blk_cell BK280.out 0).trans rfl, (blk_cell BK280.out 1).trans rfl, (cB_ HB.out hw292_0 :)⟩ (fun hHeld => ?_)
               clear hK K
               refine norm_ (a' := ?_) ?_ ?_
               rotate_left
               ·show Act.put _ (some 80) _ = _
                simp only [pt_, pn_, sI_, s0_, s1_, i64_w, i32_w]
                rfl
               refine pU_ 2 (some 81) (mk_ 13 7) ?_
               refine pU_ 3 (some 82) (mk_ 13 15) ?_
               refine pU_ 4 (some 83) (mk_ 13 31) ?_
               refine pU_ 6 (some 85) (mk_ 13 95) ?_
               refine pU_ 8 (some 87) (mk_ 13 351) ?_
               refine tK6_ 5 (some 84) (mk_ 13 383) ?_
               refine tK6_ 7 (some 86) (mk_ 13 511) ?_
               refine pU_ 9 (some 88) (mk_ 13 1023) ?_
               refine tK6_ 10 (some 89) (mk_ 13 2047) ?_
               refine pU_ 11 (some 90) (mk_ 13 4095) ?_
               refine pU_ 12 (some 91) (mk_ 13 8191) ?_
               refine done_ (done_of HT_.out (by kernel_rfl)) ?_
               try go_wp2
               go_roundg k3
               case measure => have := HJ2.out; have := HK2.out; have := HK3.out; omega
               case rel => exact ⟨(wrap64 (x74_3 + 1)), (by first | rfl | (simp; done) | (simp [*]; done)), H', ⟨by have := HJ2.out; have := HK2.out; have := HK3.out; omega⟩, ⟨rW_ BK280.out⟩, ⟨rW_ BK281.out⟩, ⟨gW_ HB.out⟩⟩
              ·rw [if_neg c61] at H
               have c61b0 : (((rd_T91 l1_1 x74_3).f0) == (rd l0_0 x74_3)) = false := beq_eq_false_iff_ne.mpr c61
               have c61b1 : (((rd_T91 l1_1 x74_3).f0) != (rd l0_0 x74_3)) = true := bne_iff_ne.mpr c61
               obtain rfl := Option.some.inj H
               have p289 : 0 ≤ (x74_3 : Int) := of_decide_eq_true (by first | (with_reducible assumption) | assumption)
               have q289 : x74_3 < (l1_1.length : Int) := of_decide_eq_true (by first | (with_reducible assumption) | assumption)
               obtain ⟨ad289, A289_1, c289_1, e289, hx289_0, hx289_1, hx289_2, hl289_1, hi289_1⟩ := at_T91 HR1_1.out x74_3 p289 q289
               cases e289
               replace hx289_0 := cB_ HB.out hx289_0
               replace hx289_1 := cB_ HB.out hx289_1
               replace hx289_2 := cB_ HB.out hx289_2
               have HR289_1 := aM_ hi289_1
               have HC289_1 := aM_ hl289_1
               clear hi289_1 hl289_1
               replace p289 := eq_true p289
               replace q289 := eq_true q289
               try go_wp2_with (first | ((with_reducible refine gate_dst (N := 8) rfl ?_); (try (refine gate_guard (by rfl) ?_; dsimp only)); refine bX_ 8 (cs := #[.int .i64 0, .slice none 0 0, .bool false]) (t := 91) ?_; intro gb290 hg w69 hbox hb; have n0 := aM_ (nB_ BK280.out hb); have n1 := aM_ (nB_ BK281.out hb); have n2 := aM_ (sT_ HB.out hb); have n3 := aM_ (hbox); have n4 := aM_ (sZ_ hg HB.out); have n5 := aM_ (sZ_ hg HB.out); have n6 := aM_ (nL_ hg BK280.out); have n7 := aM_ (nG_ hg BK280.out); have n8 := aM_ (nL_ hg BK281.out); have n9 := aM_ (nG_ hg BK281.out); clear BK280; clear BK281; clear HB; have BK280 := n0; have BK281 := n1; have HB := n2; have BK290 := n3; have GW290 := n4; have GE290 := n5; have NB280_290 := n6; have NB290_280 := n7; have NB281_290 := n8; have NB290_281 := n9; clear n0 n1 n2 n3 n4 n5 n6 n7 n8 n9; clear hb hbox hg; have hnb70 := NB290_280.out; have hnc70 := NB280_290.out; have hnb71 := NB290_281.out; have hnc71 := NB281_290.out; obtain ⟨hcz72_0, hcz72_1, hcz72_2, hfz72_0, hfz72_1, hfz72_2⟩ := bR3_ BK290.out))
               have n0 : Aside0 ((((w69.setCell ⟨gb290, 0, none⟩ (.int .i64 ((rd_T91 l1_1 x74_3).f0))).setCell ⟨gb290, 1, none⟩ (.slice A289_1 ((rd_T91 l1_1 x74_3).f1).length c289_1)).setCell ⟨gb290, 2, none⟩ (.bool ((rd_T91 l1_1 x74_3).f2))).heap[gb280]? = some (.cells #[.slice A0_0 l0_0.length c0_0, .slice A0_1 l0_1.length c0_1] 49 (0, 0))) := ⟨by (with_reducible repeat (first | refine bN_ ?_ _ | refine bD_ ?_ | refine bA_ ?_ _)); refine blk_far ?_ NB280_290.out _; (with_reducible repeat (first | refine bN_ ?_ _ | refine bD_ ?_ | refine bA_ ?_ _)); refine blk_far ?_ NB280_290.out _; (with_reducible repeat (first | refine bN_ ?_ _ | refine bD_ ?_ | refine bA_ ?_ _)); refine blk_far ?_ NB280_290.out _; (with_reducible repeat (first | refine bN_ ?_ _ | refine bD_ ?_ | refine bA_ ?_ _)); exact BK280.out⟩
               have n1 : Aside0 ((((w69.setCell ⟨gb290, 0, none⟩ (.int .i64 ((rd_T91 l1_1 x74_3).f0))).setCell ⟨gb290, 1, none⟩ (.slice A289_1 ((rd_T91 l1_1 x74_3).f1).length c289_1)).setCell ⟨gb290, 2, none⟩ (.bool ((rd_T91 l1_1 x74_3).f2))).heap[gb281]? = some (.cells #[.slice A1_0 l1_0.length c1_0, .slice (some ad289) l1_1.length c1_1, .slice A1_2 l1_2.length c1_2] 55 (0, 0))) := ⟨by (with_reducible repeat (first | refine bN_ ?_ _ | refine bD_ ?_ | refine bA_ ?_ _)); refine blk_far ?_ NB281_290.out _; (with_reducible repeat (first | refine bN_ ?_ _ | refine bD_ ?_ | refine bA_ ?_ _)); refine blk_far ?_ NB281_290.out _; (with_reducible repeat (first | refine bN_ ?_ _ | refine bD_ ?_ | refine bA_ ?_ _)); refine blk_far ?_ NB281_290.out _; (with_reducible repeat (first | refine bN_ ?_ _ | refine bD_ ?_ | refine bA_ ?_ _)); exact BK281.out⟩
               have n2 : Aside0 ((((w69.setCell ⟨gb290, 0, none⟩ (.int .i64 ((rd_T91 l1_1 x74_3).f0))).setCell ⟨gb290, 1, none⟩ (.slice A289_1 ((rd_T91 l1_1 x74_3).f1).length c289_1)).setCell ⟨gb290, 2, none⟩ (.bool ((rd_T91 l1_1 x74_3).f2))).heap[gb290]? = some (.cells #[.int .i64 ((rd_T91 l1_1 x74_3).f0), .slice A289_1 ((rd_T91 l1_1 x74_3).f1).length c289_1, .bool ((rd_T91 l1_1 x74_3).f2)] 91 (0, 0))) := ⟨by (with_reducible repeat (first | refine bN_ ?_ _ | refine bD_ ?_ | refine bA_ ?_ _)); refine blk_put (cs := #[.int .i64 ((rd_T91 l1_1 x74_3).f0), .slice A289_1 ((rd_T91 l1_1 x74_3).f1).length c289_1, .bool false]) ?_ 2 _ rfl; (with_reducible repeat (first | refine bN_ ?_ _ | refine bD_ ?_ | refine bA_ ?_ _)); refine blk_put (cs := #[.int .i64 ((rd_T91 l1_1 x74_3).f0), .slice none 0 0, .bool false]) ?_ 1 _ rfl; (with_reducible repeat (first | refine bN_ ?_ _ | refine bD_ ?_ | refine bA_ ?_ _)); refine blk_put (cs := #[.int .i64 0, .slice none 0 0, .bool false]) ?_ 0 _ rfl; (with_reducible repeat (first | refine bN_ ?_ _ | refine bD_ ?_ | refine bA_ ?_ _)); exact BK290.out⟩
               have n3 : Aside0 (Below w.heap.size w (((w69.setCell ⟨gb290, 0, none⟩ (.int .i64 ((rd_T91 l1_1 x74_3).f0))).setCell ⟨gb290, 1, none⟩ (.slice A289_1 ((rd_T91 l1_1 x74_3).f1).length c289_1)).setCell ⟨gb290, 2, none⟩ (.bool ((rd_T91 l1_1 x74_3).f2)))) := ⟨gW_ HB.out⟩
               (try clear BK280)
               (try clear BK281)
               (try clear BK290)
               (try clear HB)
               generalize (((w69.setCell ⟨gb290, 0, none⟩ (.int .i64 ((rd_T91 l1_1 x74_3).f0))).setCell ⟨gb290, 1, none⟩ (.slice A289_1 ((rd_T91 l1_1 x74_3).f1).length c289_1)).setCell ⟨gb290, 2, none⟩ (.bool ((rd_T91 l1_1 x74_3).f2))) = w73 at n0 n1 n2 n3 ⊢
               have BK280 := n0
               have BK281 := n1
               have BK290 := n2
               have HB := n3
               clear n0 n1 n2 n3
               have n0 := aM_ (blk_drew BK280.out)
               have n1 := aM_ (blk_drew BK281.out)
               have n2 := aM_ (blk_drew BK290.out)
               have n3 := aM_ (below_drew1 HB.out)
               clear BK280
               clear BK281
               clear BK290
               clear HB
               have BK280 := n0
               have BK281 := n1
               have BK290 := n2
               have HB := n3
               clear n0 n1 n2 n3
               have p292 : 0 ≤ (x74_3 : Int) := of_decide_eq_true (by first | (with_reducible assumption) | assumption)
               have q292 : x74_3 < (l0_0.length : Int) := of_decide_eq_true (by first | (with_reducible assumption) | assumption)
               obtain ⟨ad292, e292, hx292_0⟩ := Kd.at_int HR0_0.out x74_3 p292 q292
               have hw292_0 := hx292_0
               cases e292
               replace hx292_0 := cB_ HB.out hx292_0
               replace p292 := eq_true p292
               replace q292 := eq_true q292
               refine start_ (n := 13) (S := fun w' => w'.cell? ⟨gb290, 0, none⟩ = some (.int .i64 ((rd_T91 l1_1 x74_3).f0)) ∧ w'.cell? ⟨gb290, 1, none⟩ = some (.slice A289_1 ((rd_T91 l1_1 x74_3).f1).length c289_1) ∧ w'.cell? ⟨gb290, 2, none⟩ = some (.bool ((rd_T91 l1_1 x74_3).f2)) ∧ w'.cell? ⟨gb280, 0, none⟩ = some (.slice (some ad292) l0_0.length c0_0) ∧ w'.cell? ⟨gb280, 1, none⟩ = some (.slice A0_1 l0_1.length c0_1) ∧ w'.cell? (ad292.add (x74_3).toNat) = some (.int .i64 (rd l0_0 x74_3))) (ds := []) (mk_ 13 0) (by kernel_rfl) rfl rfl ⟨(blk_cell BK290.out 0).trans rfl, (blk_cell BK290.out 1).trans rfl, (blk_cell BK290.out 2).trans rfl, (blk_cell BK280.out 0).trans rfl, (blk_cell BK280.out 1).trans rfl, (cB_ HB.out hw292_0 :)⟩ (fun hHeld => ?_); refine with_tabW impl_SourceOk.tab12 impl_SourceOk.bits12 (fun HT_ HW_ => ?_)
               generalize w73.drew = w74 at BK280 BK281 BK290 HB hx292_0 hHeld ⊢
               refine tK6_ 0 (some 79) (mk_ 13 1) ?_
               refine oN_ 1 (some 80) (mk_ 13 3) (fun K hK => ?_)
               refine gO_ Try.func50 #[.agg #[.int .i64 ((rd_T91 l1_1 x74_3).f0), .slice A289_1 ((rd_T91 l1_1 x74_3).f1).length c289_1, .bool ((rd_T91 l1_1 x74_3).f2)]] ?_
               with_reducible refine (impl_ChanOk.calls ((rd_T91 l1_1 x74_3).f0) _ _ ((rd_T91 l1_1 x74_3).f1) ((rd_T91 l1_1 x74_3).f2) true _ ?side1 ?side2 A58.out).mono ?_
               (case side1 => exact cS_ (Kd.C_below HR289_1.out HB.out))
               (case side2 => exact HC289_1.out)
               rintro e w75 ⟨rfl, hb⟩
               refine ⟨_, rfl, ?_⟩
               have n0 := aM_ (nB_ BK280.out hb)
               have n1 := aM_ (nB_ BK281.out hb)
               have n2 := aM_ (nB_ BK290.out hb)
               have n3 := aM_ (sT_ HB.out hb)
               clear BK280
               clear BK281
               clear BK290
               clear HB
               have BK280 := n0
               have BK281 := n1
               have BK290 := n2
               have HB := n3
               clear n0 n1 n2 n3
               (try clear hb)
               (try clear hb2)
               (try clear hk)
               (try clear hi)
               refine hK.out _ _ ⟨(blk_cell BK290.out 0).trans rfl, (blk_cell BK290.out 1).trans rfl, (blk_cell BK290.out 2).trans rfl, (blk_cell BK280.out 0).trans rfl, (blk_cell BK280.out 1).trans rfl, (cB_ HB.out hw292_0 :)⟩ (fun hHeld => ?_)
               clear hK K
               refine norm_ (a' := ?_) ?_ ?_
               rotate_left
               ·show Act.put _ (some 80) _ = _
                simp only [pt_, pn_, sI_, s0_, s1_, i64_w, i32_w]
                rfl
               refine pU_ 2 (some 81) (mk_ 13 7) ?_
               refine pU_ 3 (some 82) (mk_ 13 15) ?_
               refine pU_ 4 (some 83) (mk_ 13 31) ?_
               refine pU_ 6 (some 85) (mk_ 13 95) ?_
               refine pU_ 8 (some 87) (mk_ 13 351) ?_
               refine tK6_ 5 (some 84) (mk_ 13 383) ?_
               refine tK6_ 7 (some 86) (mk_ 13 511) ?_
               refine pU_ 9 (some 88) (mk_ 13 1023) ?_
               refine tK6_ 10 (some 89) (mk_ 13 2047) ?_
               refine pU_ 11 (some 90) (mk_ 13 4095) ?_
               refine pU_ 12 (some 91) (mk_ 13 8191) ?_
               refine done_ (done_of HT_.out (by kernel_rfl)) ?_
               try go_wp2
               go_ret
               exact fI_ HB.out
             ·rw [if_neg c60] at H
              exact absurd H (by simp)
            ·replace c59 := Bool.eq_false_iff.mpr c59
             subst c59
             have H1 : (some false) = some r := by rw [if_neg (show ¬ (false = true) by decide)] at H; exact H
             clear H
             have H := H1
             clear H1
             obtain rfl := Option.some.inj H
             have p289 : 0 ≤ (x74_3 : Int) := of_decide_eq_true (by first | (with_reducible assumption) | assumption)
             have q289 : x74_3 < (l1_1.length : Int) := of_decide_eq_true (by first | (with_reducible assumption) | assumption)
             obtain ⟨ad289, A289_1, c289_1, e289, hx289_0, hx289_1, hx289_2, hl289_1, hi289_1⟩ := at_T91 HR1_1.out x74_3 p289 q289
             cases e289
             replace hx289_0 := cB_ HB.out hx289_0
             replace hx289_1 := cB_ HB.out hx289_1
             replace hx289_2 := cB_ HB.out hx289_2
             have HR289_1 := aM_ hi289_1
             have HC289_1 := aM_ hl289_1
             clear hi289_1 hl289_1
             replace p289 := eq_true p289
             replace q289 := eq_true q289
             try go_wp2_with (first | ((with_reducible refine gate_dst (N := 8) rfl ?_); (try (refine gate_guard (by rfl) ?_; dsimp only)); refine bX_ 8 (cs := #[.int .i64 0, .slice none 0 0, .bool false]) (t := 91) ?_; intro gb290 hg w76 hbox hb; have n0 := aM_ (nB_ BK280.out hb); have n1 := aM_ (nB_ BK281.out hb); have n2 := aM_ (sT_ HB.out hb); have n3 := aM_ (hbox); have n4 := aM_ (sZ_ hg HB.out); have n5 := aM_ (sZ_ hg HB.out); have n6 := aM_ (nL_ hg BK280.out); have n7 := aM_ (nG_ hg BK280.out); have n8 := aM_ (nL_ hg BK281.out); have n9 := aM_ (nG_ hg BK281.out); clear BK280; clear BK281; clear HB; have BK280 := n0; have BK281 := n1; have HB := n2; have BK290 := n3; have GW290 := n4; have GE290 := n5; have NB280_290 := n6; have NB290_280 := n7; have NB281_290 := n8; have NB290_281 := n9; clear n0 n1 n2 n3 n4 n5 n6 n7 n8 n9; clear hb hbox hg; have hnb77 := NB290_280.out; have hnc77 := NB280_290.out; have hnb78 := NB290_281.out; have hnc78 := NB281_290.out; obtain ⟨hcz79_0, hcz79_1, hcz79_2, hfz79_0, hfz79_1, hfz79_2⟩ := bR3_ BK290.out))
             have n0 : Aside0 ((((w76.setCell ⟨gb290, 0, none⟩ (.int .i64 ((rd_T91 l1_1 x74_3).f0))).setCell ⟨gb290, 1, none⟩ (.slice A289_1 ((rd_T91 l1_1 x74_3).f1).length c289_1)).setCell ⟨gb290, 2, none⟩ (.bool ((rd_T91 l1_1 x74_3).f2))).heap[gb280]? = some (.cells #[.slice A0_0 l0_0.length c0_0, .slice A0_1 l0_1.length c0_1] 49 (0, 0))) := ⟨by (with_reducible repeat (first | refine bN_ ?_ _ | refine bD_ ?_ | refine bA_ ?_ _)); refine blk_far ?_ NB280_290.out _; (with_reducible repeat (first | refine bN_ ?_ _ | refine bD_ ?_ | refine bA_ ?_ _)); refine blk_far ?_ NB280_290.out _; (with_reducible repeat (first | refine bN_ ?_ _ | refine bD_ ?_ | refine bA_ ?_ _)); refine blk_far ?_ NB280_290.out _; (with_reducible repeat (first | refine bN_ ?_ _ | refine bD_ ?_ | refine bA_ ?_ _)); exact BK280.out⟩
             have n1 : Aside0 ((((w76.setCell ⟨gb290, 0, none⟩ (.int .i64 ((rd_T91 l1_1 x74_3).f0))).setCell ⟨gb290, 1, none⟩ (.slice A289_1 ((rd_T91 l1_1 x74_3).f1).length c289_1)).setCell ⟨gb290, 2, none⟩ (.bool ((rd_T91 l1_1 x74_3).f2))).heap[gb281]? = some (.cells #[.slice A1_0 l1_0.length c1_0, .slice (some ad289) l1_1.length c1_1, .slice A1_2 l1_2.length c1_2] 55 (0, 0))) := ⟨by (with_reducible repeat (first | refine bN_ ?_ _ | refine bD_ ?_ | refine bA_ ?_ _)); refine blk_far ?_ NB281_290.out _; (with_reducible repeat (first | refine bN_ ?_ _ | refine bD_ ?_ | refine bA_ ?_ _)); refine blk_far ?_ NB281_290.out _; (with_reducible repeat (first | refine bN_ ?_ _ | refine bD_ ?_ | refine bA_ ?_ _)); refine blk_far ?_ NB281_290.out _; (with_reducible repeat (first | refine bN_ ?_ _ | refine bD_ ?_ | refine bA_ ?_ _)); exact BK281.out⟩
             have n2 : Aside0 ((((w76.setCell ⟨gb290, 0, none⟩ (.int .i64 ((rd_T91 l1_1 x74_3).f0))).setCell ⟨gb290, 1, none⟩ (.slice A289_1 ((rd_T91 l1_1 x74_3).f1).length c289_1)).setCell ⟨gb290, 2, none⟩ (.bool ((rd_T91 l1_1 x74_3).f2))).heap[gb290]? = some (.cells #[.int .i64 ((rd_T91 l1_1 x74_3).f0), .slice A289_1 ((rd_T91 l1_1 x74_3).f1).length c289_1, .bool ((rd_T91 l1_1 x74_3).f2)] 91 (0, 0))) := ⟨by (with_reducible repeat (first | refine bN_ ?_ _ | refine bD_ ?_ | refine bA_ ?_ _)); refine blk_put (cs := #[.int .i64 ((rd_T91 l1_1 x74_3).f0), .slice A289_1 ((rd_T91 l1_1 x74_3).f1).length c289_1, .bool false]) ?_ 2 _ rfl; (with_reducible repeat (first | refine bN_ ?_ _ | refine bD_ ?_ | refine bA_ ?_ _)); refine blk_put (cs := #[.int .i64 ((rd_T91 l1_1 x74_3).f0), .slice none 0 0, .bool false]) ?_ 1 _ rfl; (with_reducible repeat (first | refine bN_ ?_ _ | refine bD_ ?_ | refine bA_ ?_ _)); refine blk_put (cs := #[.int .i64 0, .slice none 0 0, .bool false]) ?_ 0 _ rfl; (with_reducible repeat (first | refine bN_ ?_ _ | refine bD_ ?_ | refine bA_ ?_ _)); exact BK290.out⟩
             have n3 : Aside0 (Below w.heap.size w (((w76.setCell ⟨gb290, 0, none⟩ (.int .i64 ((rd_T91 l1_1 x74_3).f0))).setCell ⟨gb290, 1, none⟩ (.slice A289_1 ((rd_T91 l1_1 x74_3).f1).length c289_1)).setCell ⟨gb290, 2, none⟩ (.bool ((rd_T91 l1_1 x74_3).f2)))) := ⟨gW_ HB.out⟩
             (try clear BK280)
             (try clear BK281)
             (try clear BK290)
             (try clear HB)
             generalize (((w76.setCell ⟨gb290, 0, none⟩ (.int .i64 ((rd_T91 l1_1 x74_3).f0))).setCell ⟨gb290, 1, none⟩ (.slice A289_1 ((rd_T91 l1_1 x74_3).f1).length c289_1)).setCell ⟨gb290, 2, none⟩ (.bool ((rd_T91 l1_1 x74_3).f2))) = w80 at n0 n1 n2 n3 ⊢
             have BK280 := n0
             have BK281 := n1
             have BK290 := n2
             have HB := n3
             clear n0 n1 n2 n3
             have n0 := aM_ (blk_drew BK280.out)
             have n1 := aM_ (blk_drew BK281.out)
             have n2 := aM_ (blk_drew BK290.out)
             have n3 := aM_ (below_drew1 HB.out)
             clear BK280
             clear BK281
             clear BK290
             clear HB
             have BK280 := n0
             have BK281 := n1
             have BK290 := n2
             have HB := n3
             clear n0 n1 n2 n3
             refine start_ (n := 13) (S := fun w' => w'.cell? ⟨gb290, 0, none⟩ = some (.int .i64 ((rd_T91 l1_1 x74_3).f0)) ∧ w'.cell? ⟨gb290, 1, none⟩ = some (.slice A289_1 ((rd_T91 l1_1 x74_3).f1).length c289_1) ∧ w'.cell? ⟨gb290, 2, none⟩ = some (.bool ((rd_T91 l1_1 x74_3).f2))) (ds := []) (mk_ 13 0) (by kernel_rfl) rfl rfl ⟨(blk_cell BK290.out 0).trans rfl, (blk_cell BK290.out 1).trans rfl, (blk_cell BK290.out 2).trans rfl⟩ (fun hHeld => ?_); refine with_tabW impl_SourceOk.tab12 impl_SourceOk.bits12 (fun HT_ HW_ => ?_)
             generalize w80.drew = w81 at BK280 BK281 BK290 HB hHeld ⊢
             refine tK3_ 0 (some 79) (mk_ 13 1) ?_
             refine oN_ 1 (some 80) (mk_ 13 3) (fun K hK => ?_)
             refine gO_ Try.func50 #[.agg #[.int .i64 ((rd_T91 l1_1 x74_3).f0), .slice A289_1 ((rd_T91 l1_1 x74_3).f1).length c289_1, .bool ((rd_T91 l1_1 x74_3).f2)]] ?_
             with_reducible refine (impl_ChanOk.calls ((rd_T91 l1_1 x74_3).f0) _ _ ((rd_T91 l1_1 x74_3).f1) ((rd_T91 l1_1 x74_3).f2) false _ ?side1 ?side2 A58.out).mono ?_
             (case side1 => exact cS_ (Kd.C_below HR289_1.out HB.out))
             (case side2 => exact HC289_1.out)
             rintro e w82 ⟨rfl, hb⟩
             refine ⟨_, rfl, ?_⟩
             have n0 := aM_ (nB_ BK280.out hb)
             have n1 := aM_ (nB_ BK281.out hb)
             have n2 := aM_ (nB_ BK290.out hb)
             have n3 := aM_ (sT_ HB.out hb)
             clear BK280
             clear BK281
             clear BK290
             clear HB
             have BK280 := n0
             have BK281 := n1
             have BK290 := n2
             have HB := n3
             clear n0 n1 n2 n3
             (try clear hb)
             (try clear hb2)
             (try clear hk)
             (try clear hi)
             refine hK.out _ _ ⟨(blk_cell BK290.out 0).trans rfl, (blk_cell BK290.out 1).trans rfl, (blk_cell BK290.out 2).trans rfl⟩ (fun hHeld => ?_)
             clear hK K
             refine norm_ (a' := ?_) ?_ ?_
             rotate_left
             ·show Act.put _ (some 80) _ = _
              simp only [pt_, pn_, sI_, s0_, s1_, i64_w, i32_w]
              rfl
             refine pU_ 2 (some 81) (mk_ 13 7) ?_
             refine pU_ 3 (some 82) (mk_ 13 15) ?_
             refine pX_ 4 (some 83) (mk_ 13 31) ?_
             refine pX_ 5 (some 84) (mk_ 13 63) ?_
             refine pX_ 6 (some 85) (mk_ 13 127) ?_
             refine pX_ 7 (some 86) (mk_ 13 255) ?_
             refine pX_ 8 (some 87) (mk_ 13 511) ?_
             refine pX_ 9 (some 88) (mk_ 13 1023) ?_
             refine pX_ 10 (some 89) (mk_ 13 2047) ?_
             refine pX_ 11 (some 90) (mk_ 13 4095) ?_
             refine pU_ 12 (some 91) (mk_ 13 8191) ?_
             refine done_ (done_of HT_.out (by kernel_rfl)) ?_
             try go_wp2
             go_ret
             exact fI_ HB.out
           ·rw [if_neg c57] at H
            exact absurd H (by simp)
          ·rw [if_neg c56] at H
           exact absurd H (by simp)
         ·rw [if_neg c55] at H
          have c55b0 : decide (x74_3 < (l1_1.length : Int)) = false := decide_eq_false c55
          clear c55
          obtain rfl := Option.some.inj H
          go_wp2
          go_ret
          exact fI_ HB.out
end Go.Proofs.Ytfaoipojijhlbaa.PFnExactSourceOk
