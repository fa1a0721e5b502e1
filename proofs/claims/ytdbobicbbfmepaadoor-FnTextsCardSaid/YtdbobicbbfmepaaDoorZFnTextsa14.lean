/- A part of the proof that the law FnTexts holds for every input: the words, functions and walks that its row needs, without a condition of their own. -/
import Derived.Test.YtdbobicbbfmepaaDoorZFnTextsa4
import Derived.Test.YtdbobicbbfmepaaDoorZFnTextss
namespace Go.Proofs.YtdbobicbbfmepaaDoor.PFnTexts
open Go.RowKit Go.Proofs.YtdbobicbbfmepaaDoorW.PrintWords Go.Proofs.YtdbobicbbfmepaaDoorW.PrintLast Go.Proofs.YtdbobicbbfmepaaDoorW.PrintMore
attribute [local go_sem] max2_int min2_int max_two min_two max_three min_three max_four min_four   -- for this text's walks alone
set_option linter.unusedVariables false
set_option linter.unusedSimpArgs false
def spec_l2Digits.l0 : Nat → Int → Bool → ByteArray → Option (ByteArray)
  | 0, _, _, _ => none
  | k + 1, x0, x3, x4 => if x0 = 0 then (if x3 = true then (if 1 + x4.size ≤ 9223372036854775807 then (some ((⟨#[45]⟩ : ByteArray) ++ x4)) else (none)) else (some x4)) else (if (Int.tmod x0 10) < 0 then ((some (([(wrap64 (48 + (wrap64 (-(Int.tmod x0 10))))) % 256] : List Int) : List Int)).bind fun y462 => (if (strOfNums y462).size + x4.size ≤ 9223372036854775807 then (spec_l2Digits.l0 k (wrap64 (Int.tdiv x0 10)) x3 ((strOfNums y462) ++ x4)) else (none))) else ((some (([(wrap64 (48 + (Int.tmod x0 10))) % 256] : List Int) : List Int)).bind fun y465 => (if (strOfNums y465).size + x4.size ≤ 9223372036854775807 then (spec_l2Digits.l0 k (wrap64 (Int.tdiv x0 10)) x3 ((strOfNums y465) ++ x4)) else (none))))
def spec_l2Digits.f (k : Nat) (a0 : Int) : Option (ByteArray) := if a0 = 0 then (some (⟨#[48]⟩ : ByteArray)) else (spec_l2Digits.l0 k a0 (decide (a0 < 0)) (⟨#[]⟩ : ByteArray))
set_option maxHeartbeats 8000000 in
set_option maxRecDepth 100000 in
theorem spec_l2Digits.calls (k : Nat) (a0 : Int) (r : ByteArray) (w : World) (h : spec_l2Digits.f k a0 = some r) :
  Calls Tryd.prog 47 #[.int .i64 a0] w fun e w' => e = .returned (.string r) ∧ Below w.heap.size w w' := by
 have HB := aM_ (Below.refl w.heap.size w)
 have H : (if a0 = 0 then (some (⟨#[48]⟩ : ByteArray)) else (spec_l2Digits.l0 k a0 (decide (a0 < 0)) (⟨#[]⟩ : ByteArray))) = some r := h
 clear h
 by_cases c2 : a0 = 0
 ·rw [if_pos c2] at H
  have c2b0 : (a0 == 0) = true := beq_iff_eq.mpr c2
  have c2b1 : (a0 != 0) = false := bne_eq_false_iff_eq.mpr c2
  clear c2
  obtain rfl := Option.some.inj H
  go_enter Tryd.func47, Tryd.ntmps47
  go_wp2
  (all_goals try (exfalso; first | (have c_ : a0 < 0 := of_decide_eq_true (by assumption); omega) | (have c_ : ¬ a0 < 0 := of_decide_eq_false (by assumption); omega)))
  go_ret
  exact fI_ HB.out
 ·rw [if_neg c2] at H
  have c2b0 : (a0 == 0) = false := beq_eq_false_iff_ne.mpr c2
  have c2b1 : (a0 != 0) = true := bne_iff_ne.mpr c2
  have H' := aM_ H
  clear H
  go_enter Tryd.func47, Tryd.ntmps47
  go_wp2
  (all_goals try (exfalso; first | (have c_ : a0 < 0 := of_decide_eq_true (by assumption); omega) | (have c_ : ¬ a0 < 0 := of_decide_eq_false (by assumption); omega)))
  go_loopg [0, 4] k (fun kq v0 v4 w' => ∃ (x0_1 : Int) (x4_1 : ByteArray), v0 = .int .i64 x0_1 ∧ v4 = .string x4_1 ∧ Aside0 (spec_l2Digits.l0 kq x0_1 (decide (a0 < 0)) x4_1 = some r) ∧ Aside0 (kq ≤ k) ∧ Aside0 (Below w.heap.size w w'))
  case atStart => exact ⟨(a0), ((⟨#[]⟩ : ByteArray)), (by first | rfl | (simp; done) | (simp [*]; done)), (by first | rfl | (simp; done) | (simp [*]; done)), H', ⟨Nat.le_refl _⟩, ⟨gW_ HB.out⟩⟩
  case round =>
   clear H'
   try clear c2
   try clear c2b0
   try clear c2b1
   try clear p2
   obtain ⟨x0_1, x4_1, rfl, rfl, HA, HK1, HB⟩ := hrel
   cases gk with
   | zero => exact absurd HA.out (by simp [spec_l2Digits.l0])
   | succ k1 =>
    have H := HA.out
    clear HA
    simp only [spec_l2Digits.l0] at H
    by_cases c3 : x0_1 = 0
    ·rw [if_pos c3] at H
     have c3b0 : (x0_1 == 0) = true := beq_iff_eq.mpr c3
     have c3b1 : (x0_1 != 0) = false := bne_eq_false_iff_eq.mpr c3
     clear c3
     by_cases c4 : (decide (a0 < 0)) = true
     ·rw [if_pos c4] at H
      have c4b0 : (decide (a0 < 0)) = true := c4
      clear c4
      by_cases c5 : 1 + x4_1.size ≤ 9223372036854775807
      ·rw [if_pos c5] at H
       have c5b0 := eq_true c5
       have c5b1 : decide (1 + x4_1.size ≤ 9223372036854775807) = true := decide_eq_true c5
       try have c5b2 : (9223372036854775807 < 1 + x4_1.size) = False := eq_false (Nat.not_lt.2 c5)
       obtain rfl := Option.some.inj H
       go_wp2
       (all_goals try (exfalso; first | (have c_ : a0 < 0 := of_decide_eq_true (by assumption); omega) | (have c_ : ¬ a0 < 0 := of_decide_eq_false (by assumption); omega)))
       go_ret
       exact fI_ HB.out
      ·rw [if_neg c5] at H
       exact absurd H (by simp)
     ·rw [if_neg c4] at H
      have c4b0 : (decide (a0 < 0)) = false := by simpa using c4
      clear c4
      obtain rfl := Option.some.inj H
      go_wp2
      (all_goals try (exfalso; first | (have c_ : a0 < 0 := of_decide_eq_true (by assumption); omega) | (have c_ : ¬ a0 < 0 := of_decide_eq_false (by assumption); omega)))
      go_ret
      exact fI_ HB.out
    ·rw [if_neg c3] at H
     have c3b0 : (x0_1 == 0) = false := beq_eq_false_iff_ne.mpr c3
     have c3b1 : (x0_1 != 0) = true := bne_iff_ne.mpr c3
     by_cases c6 : (Int.tmod x0_1 10) < 0
     ·rw [if_pos c6] at H
      have c6b0 : decide ((Int.tmod x0_1 10) < 0) = true := decide_eq_true c6
      clear c6
      obtain ⟨y462, hy462⟩ : ∃ y_ : List Int, y_ = (([(wrap64 (48 + (wrap64 (-(Int.tmod x0_1 10))))) % 256] : List Int)) := ⟨_, rfl⟩
      replace H : (if (strOfNums y462).size + x4_1.size ≤ 9223372036854775807 then (spec_l2Digits.l0 k1 (wrap64 (Int.tdiv x0_1 10)) (decide (a0 < 0)) ((strOfNums y462) ++ x4_1)) else (none)) = some r := by first | (rw [hy462]; with_reducible exact H) | (have H2_ := (Option.bind_some _ _).symm.trans H; rw [hy462]; with_reducible exact H2_) | (have H2_ := (Option.bind_some _ _).symm.trans H; with_reducible exact H2_) | with_reducible exact H | (rw [hy462]; exact H) | exact H
      have Ny462 := aM_ hy462
      clear hy462
      by_cases c7 : (strOfNums y462).size + x4_1.size ≤ 9223372036854775807
      ·rw [if_pos c7] at H
       have c7b0 := eq_true c7
       have c7b1 : decide ((strOfNums y462).size + x4_1.size ≤ 9223372036854775807) = true := decide_eq_true c7
       try have c7b2 : (9223372036854775807 < (strOfNums y462).size + x4_1.size) = False := eq_false (Nat.not_lt.2 c7)
       have H' := aM_ H
       clear H
       go_wp2_with (first | ((with_reducible refine gate_dst (N := 21) rfl ?_); refine Kd.R_lit (Kd.int .u8) _ 5 ?hg (N := 21) ?hd (xs := ([(wrap64 (48 + (wrap64 (-(Int.tmod x0_1 10))))) % 256] : List Int)) (inner := [.int .u8 ((wrap64 (48 + (wrap64 (-(Int.tmod x0_1 10))))) % 256)]) (ok := fun _ => True) (okp := fun _ => True) ?hr ?hp (fun _ hk => hk) trivial (Below.refl _ _) (Nat.le_refl _) (by simp) ?_; (case hd => rfl); (case hg => rfl); (case hr => first | (go_simp; done) | (go_simp; rfl)); (case hp => exact (Reps.one (show Kd.M (Kd.int .u8) _ _ _ ((wrap64 (48 + (wrap64 (-(Int.tmod x0_1 10))))) % 256) [.int .u8 ((wrap64 (48 + (wrap64 (-(Int.tmod x0_1 10))))) % 256)] from rfl) (Reps.none _ _))); intro v463 w8 ho9 hb hg_ hnew_; clear hg_ hnew_; (first | rw [← Ny462.out] at ho9 | (simp only [Int.reduceToNat] at ho9; rw [← Ny462.out] at ho9)); have n0 := aM_ (Kd.R_lower ho9 (below_size (gB_ HB.out))); have n1 := aM_ (sT_ HB.out hb); clear HB; have HO464 := n0; have HB := n1; clear n0 n1; clear hb ho9; have hcv10 := own_string (P := Tryd.prog) Tryd.underlying22 Tryd.underlying5 Tryd.underlying9 (Kd.own_of_R HO464.out)))
       go_roundg k1
       case measure => have := HK1.out; omega
       case rel => exact ⟨(wrap64 (Int.tdiv x0_1 10)), ((strOfNums y462) ++ x4_1), (by first | rfl | (simp; done) | (simp [*]; done)), (by first | rfl | (simp; done) | (simp [*]; done)), H', ⟨by have := HK1.out; omega⟩, ⟨gW_ HB.out⟩⟩
      ·rw [if_neg c7] at H
       exact absurd H (by simp)
     ·rw [if_neg c6] at H
      have c6b0 : decide ((Int.tmod x0_1 10) < 0) = false := decide_eq_false c6
      clear c6
      obtain ⟨y465, hy465⟩ : ∃ y_ : List Int, y_ = (([(wrap64 (48 + (Int.tmod x0_1 10))) % 256] : List Int)) := ⟨_, rfl⟩
      replace H : (if (strOfNums y465).size + x4_1.size ≤ 9223372036854775807 then (spec_l2Digits.l0 k1 (wrap64 (Int.tdiv x0_1 10)) (decide (a0 < 0)) ((strOfNums y465) ++ x4_1)) else (none)) = some r := by first | (rw [hy465]; with_reducible exact H) | (have H2_ := (Option.bind_some _ _).symm.trans H; rw [hy465]; with_reducible exact H2_) | (have H2_ := (Option.bind_some _ _).symm.trans H; with_reducible exact H2_) | with_reducible exact H | (rw [hy465]; exact H) | exact H
      have Ny465 := aM_ hy465
      clear hy465
      by_cases c11 : (strOfNums y465).size + x4_1.size ≤ 9223372036854775807
      ·rw [if_pos c11] at H
       have c11b0 := eq_true c11
       have c11b1 : decide ((strOfNums y465).size + x4_1.size ≤ 9223372036854775807) = true := decide_eq_true c11
       try have c11b2 : (9223372036854775807 < (strOfNums y465).size + x4_1.size) = False := eq_false (Nat.not_lt.2 c11)
       have H' := aM_ H
       clear H
       go_wp2_with (first | ((with_reducible refine gate_dst (N := 21) rfl ?_); refine Kd.R_lit (Kd.int .u8) _ 5 ?hg (N := 21) ?hd (xs := ([(wrap64 (48 + (Int.tmod x0_1 10))) % 256] : List Int)) (inner := [.int .u8 ((wrap64 (48 + (Int.tmod x0_1 10))) % 256)]) (ok := fun _ => True) (okp := fun _ => True) ?hr ?hp (fun _ hk => hk) trivial (Below.refl _ _) (Nat.le_refl _) (by simp) ?_; (case hd => rfl); (case hg => rfl); (case hr => first | (go_simp; done) | (go_simp; rfl)); (case hp => exact (Reps.one (show Kd.M (Kd.int .u8) _ _ _ ((wrap64 (48 + (Int.tmod x0_1 10))) % 256) [.int .u8 ((wrap64 (48 + (Int.tmod x0_1 10))) % 256)] from rfl) (Reps.none _ _))); intro v466 w12 ho13 hb hg_ hnew_; clear hg_ hnew_; (first | rw [← Ny465.out] at ho13 | (simp only [Int.reduceToNat] at ho13; rw [← Ny465.out] at ho13)); have n0 := aM_ (Kd.R_lower ho13 (below_size (gB_ HB.out))); have n1 := aM_ (sT_ HB.out hb); clear HB; have HO467 := n0; have HB := n1; clear n0 n1; clear hb ho13; have hcv14 := own_string (P := Tryd.prog) Tryd.underlying22 Tryd.underlying5 Tryd.underlying9 (Kd.own_of_R HO467.out)))
       go_roundg k1
       case measure => have := HK1.out; omega
       case rel => exact ⟨(wrap64 (Int.tdiv x0_1 10)), ((strOfNums y465) ++ x4_1), (by first | rfl | (simp; done) | (simp [*]; done)), (by first | rfl | (simp; done) | (simp [*]; done)), H', ⟨by have := HK1.out; omega⟩, ⟨gW_ HB.out⟩⟩
      ·rw [if_neg c11] at H
       exact absurd H (by simp)
def spec_l16R.f (k : Nat) (a0 : Int) : Option (ByteArray) := (spec_l2Digits.f k a0).bind fun t468 => (if 2 + t468.size ≤ 9223372036854775807 then (some ((⟨#[32, 114]⟩ : ByteArray) ++ t468)) else (none))
set_option maxHeartbeats 8000000 in
set_option maxRecDepth 100000 in
theorem spec_l16R.calls (k : Nat) (a0 : Int) (r : ByteArray) (w : World) (h : spec_l16R.f k a0 = some r) :
  Calls Tryd.prog 46 #[.int .i64 a0] w fun e w' => e = .returned (.string r) ∧ Below w.heap.size w w' := by
 have HB := aM_ (Below.refl w.heap.size w)
 have H : ((spec_l2Digits.f k a0).bind fun t468 => (if 2 + t468.size ≤ 9223372036854775807 then (some ((⟨#[32, 114]⟩ : ByteArray) ++ t468)) else (none))) = some r := h
 clear h
 replace H := Option.bind_eq_some_iff.mp H
 obtain ⟨t468, A20, H⟩ := H
 replace H : (if 2 + t468.size ≤ 9223372036854775807 then (some ((⟨#[32, 114]⟩ : ByteArray) ++ t468)) else (none)) = some r := H
 have A2 := aM_ A20
 clear A20
 by_cases c3 : 2 + t468.size ≤ 9223372036854775807
 ·rw [if_pos c3] at H
  have c3b0 := eq_true c3
  have c3b1 : decide (2 + t468.size ≤ 9223372036854775807) = true := decide_eq_true c3
  try have c3b2 : (9223372036854775807 < 2 + t468.size) = False := eq_false (Nat.not_lt.2 c3)
  obtain rfl := Option.some.inj H
  go_enter Tryd.func46, Tryd.ntmps46
  go_wp2_with (first | ((with_reducible refine gate_callee (f := 47) rfl ?_); refine gL_ (some 4) Tryd.func47 #[.int .i64 a0] ?_; (with_reducible refine (spec_l2Digits.calls k a0 t468 _ A2.out).mono ?_); rintro e w4 ⟨rfl, hb⟩; refine ⟨_, rfl, ?_⟩; have n0 := aM_ (sT_ HB.out hb); clear HB; have HB := n0; clear n0))
  go_ret
  exact fI_ HB.out
 ·rw [if_neg c3] at H
  exact absurd H (by simp)
def spec_l16Cell.j0 : Nat → Bool → Int → Int → Int → Int → Int → Option (ByteArray)
  | 0, _, _, _, _, _, _ => none
  | k + 1, x10, x470000, x470001, x470002, x470003, x470004 => if x10 = true then ((spec_l2Digits.f k x470004).bind fun t470 => (if 2 + t470.size ≤ 9223372036854775807 then (if ((⟨#[32, 91]⟩ : ByteArray) ++ t470).size + 1 ≤ 9223372036854775807 then (some (((⟨#[32, 91]⟩ : ByteArray) ++ t470) ++ (⟨#[93]⟩ : ByteArray))) else (none)) else (none))) else ((spec_l2Digits.f k x470004).bind fun t471 => (if 2 + t471.size ≤ 9223372036854775807 then (if ((⟨#[32, 91]⟩ : ByteArray) ++ t471).size + 2 ≤ 9223372036854775807 then ((spec_l2Digits.f k x470002).bind fun t472 => (if (((⟨#[32, 91]⟩ : ByteArray) ++ t471) ++ (⟨#[43, 114]⟩ : ByteArray)).size + t472.size ≤ 9223372036854775807 then (if ((((⟨#[32, 91]⟩ : ByteArray) ++ t471) ++ (⟨#[43, 114]⟩ : ByteArray)) ++ t472).size + 1 ≤ 9223372036854775807 then (some (((((⟨#[32, 91]⟩ : ByteArray) ++ t471) ++ (⟨#[43, 114]⟩ : ByteArray)) ++ t472) ++ (⟨#[93]⟩ : ByteArray))) else (none)) else (none))) else (none)) else (none)))
def spec_l16Cell.f (k : Nat) (a0_0 : Int) (a0_1 : Int) (a0_2 : Int) (a0_3 : Int) (a0_4 : Int) : Option (ByteArray) := if a0_2 < 0 then (spec_l16Cell.j0 k true a0_0 a0_1 a0_2 a0_3 a0_4) else (spec_l16Cell.j0 k (a0_0 == 8) a0_0 a0_1 a0_2 a0_3 a0_4)
def spec_l16Cell.T3 : Bool × List (List Nat × List Nat) := (true, [([], []), ([0], [0]), ([1], [1]), ([2], [2]), ([3], [3]), ([], []), ([5], [5]), ([6, 2], [6]), ([4, 7], [4, 7]), ([8], [8]), ([9, 7, 0, 1, 2, 3, 4, 5, 6, 7, 8, 9], [9])])
def spec_l16Cell.B3 : List Nat := [0, 1, 3, 7, 15, 0, 32, 103, 255, 511, 1023]
theorem spec_l16Cell.tab3 : rtab .any (opsOf Tryd.f48 3) = spec_l16Cell.T3 := by kernel_rfl
theorem spec_l16Cell.bits3 : waitsOk spec_l16Cell.T3.2 spec_l16Cell.B3 = true := by kernel_rfl
set_option maxHeartbeats 8000000 in
set_option maxRecDepth 100000 in
theorem spec_l16Cell.calls (k : Nat) (a0_0 : Int) (a0_1 : Int) (a0_2 : Int) (a0_3 : Int) (a0_4 : Int) (r : ByteArray) (w : World) (h : spec_l16Cell.f k a0_0 a0_1 a0_2 a0_3 a0_4 = some r) :
  Calls Tryd.prog 48 #[.agg #[.int .i64 a0_0, .int .i64 a0_1, .int .i64 a0_2, .int .i64 a0_3, .int .i64 a0_4]] w fun e w' => e = .returned (.string r) ∧ Below w.heap.size w w' := by
 have hu25 := Tryd.underlying25
 have HB := aM_ (Below.refl w.heap.size w)
 have H : (if a0_2 < 0 then (spec_l16Cell.j0 k true a0_0 a0_1 a0_2 a0_3 a0_4) else (spec_l16Cell.j0 k (a0_0 == 8) a0_0 a0_1 a0_2 a0_3 a0_4)) = some r := h
 clear h
 have HC2 := aM_ H
 clear H
 go_enter Tryd.func48, Tryd.ntmps48
 go_upto_region 1 with (first | ((with_reducible refine gate_dst (N := 1) rfl ?_); refine bX_ 1 (cs := #[.int .i64 a0_0, .int .i64 a0_1, .int .i64 a0_2, .int .i64 a0_3, .int .i64 a0_4]) (t := 25) ?_; intro gb469 hg w3 hbox hb; have n0 := aM_ (sT_ HB.out hb); have n1 := aM_ (hbox); have n2 := aM_ (sZ_ hg HB.out); have n3 := aM_ (sZ_ hg HB.out); clear HB; have HB := n0; have BK469 := n1; have GW469 := n2; have GE469 := n3; clear n0 n1 n2 n3; clear hb hbox hg))
 (try simp only [Act.put, List.setIfInBounds_toArray, List.set_cons_zero, List.set_cons_succ])
 go_cut [10] (fun v10 wc => ∃ (kq : Nat) (x10_1 : Bool), v10 = .bool x10_1 ∧ Aside0 (spec_l16Cell.j0 kq x10_1 a0_0 a0_1 a0_2 a0_3 a0_4 = some r) ∧ Aside0 (kq ≤ k) ∧ Aside0 (wc.heap[gb469]? = some (.cells #[.int .i64 a0_0, .int .i64 a0_1, .int .i64 a0_2, .int .i64 a0_3, .int .i64 a0_4] 25 (0, 0))) ∧ Aside0 (Below w.heap.size w wc))
 case first =>
  have H := HC2.out
  clear HC2
  by_cases c4 : a0_2 < 0
  ·rw [if_pos c4] at H
   have c4b0 : decide (a0_2 < 0) = true := decide_eq_true c4
   clear c4
   (first | rw [c4b0] | (simp only [i64_w, i32_w]; rw [c4b0]) | skip)
   have H' := aM_ H
   clear H
   obtain ⟨hcz5_0, hcz5_1, hcz5_2, hcz5_3, hcz5_4, hfz5_0, hfz5_1, hfz5_2, hfz5_3, hfz5_4⟩ := bR5_ BK469.out
   go_wp2
   go_meet
   case rel => exact ⟨_, (true), (by first | rfl | (simp; done) | (simp [*]; done)), H', ⟨by first | omega | exact Nat.le_refl _⟩, ⟨rW_ BK469.out⟩, ⟨gW_ HB.out⟩⟩
  ·rw [if_neg c4] at H
   have c4b0 : decide (a0_2 < 0) = false := decide_eq_false c4
   clear c4
   (first | rw [c4b0] | (simp only [i64_w, i32_w]; rw [c4b0]) | skip)
   have H' := aM_ H
   clear H
   obtain ⟨hcz6_0, hcz6_1, hcz6_2, hcz6_3, hcz6_4, hfz6_0, hfz6_1, hfz6_2, hfz6_3, hfz6_4⟩ := bR5_ BK469.out
   go_wp2
   go_meet
   case rel => exact ⟨_, ((a0_0 == 8)), (by first | rfl | (simp; done) | (simp [*]; done)), H', ⟨by first | omega | exact Nat.le_refl _⟩, ⟨rW_ BK469.out⟩, ⟨gW_ HB.out⟩⟩
 case rest =>
  clear HC2
  try clear p2
  try clear c4
  try clear c4b0
  try clear hcz5_0 hcz5_1 hcz5_2 hcz5_3 hcz5_4 hfz5_0 hfz5_1 hfz5_2 hfz5_3 hfz5_4
  try clear hcz6_0 hcz6_1 hcz6_2 hcz6_3 hcz6_4 hfz6_0 hfz6_1 hfz6_2 hfz6_3 hfz6_4
  obtain ⟨kq, x10_1, rfl, HA, HJ1, BK469, HB⟩ := hcut
  cases kq with
  | zero => exact absurd HA.out (by simp [spec_l16Cell.j0])
  | succ kj1 =>
   have H := HA.out
   clear HA
   simp only [spec_l16Cell.j0] at H
   by_cases c7 : x10_1 = true
   ·subst c7
    have H1 : ((spec_l2Digits.f kj1 a0_4).bind fun t470 => (if 2 + t470.size ≤ 9223372036854775807 then (if ((⟨#[32, 91]⟩ : ByteArray) ++ t470).size + 1 ≤ 9223372036854775807 then (some (((⟨#[32, 91]⟩ : ByteArray) ++ t470) ++ (⟨#[93]⟩ : ByteArray))) else (none)) else (none))) = some r := by rw [if_pos rfl] at H; exact H
    clear H
    have H := H1
    clear H1
    replace H := Option.bind_eq_some_iff.mp H
    obtain ⟨t470, A80, H⟩ := H
    replace H : (if 2 + t470.size ≤ 9223372036854775807 then (if ((⟨#[32, 91]⟩ : ByteArray) ++ t470).size + 1 ≤ 9223372036854775807 then (some (((⟨#[32, 91]⟩ : ByteArray) ++ t470) ++ (⟨#[93]⟩ : ByteArray))) else (none)) else (none)) = some r := H
    have A8 := aM_ A80
    clear A80
    by_cases c9 : 2 + t470.size ≤ 9223372036854775807
    ·rw [if_pos c9] at H
     have c9b0 := eq_true c9
     have c9b1 : decide (2 + t470.size ≤ 9223372036854775807) = true := decide_eq_true c9
     try have c9b2 : (9223372036854775807 < 2 + t470.size) = False := eq_false (Nat.not_lt.2 c9)
     by_cases c10 : ((⟨#[32, 91]⟩ : ByteArray) ++ t470).size + 1 ≤ 9223372036854775807
     ·rw [if_pos c10] at H
      have c10b0 := eq_true c10
      have c10b1 : decide (((⟨#[32, 91]⟩ : ByteArray) ++ t470).size + 1 ≤ 9223372036854775807) = true := decide_eq_true c10
      (try (have c10n := c10; simp only [ByteArray.size_append, Tab.sz_mk, List.size_toArray, List.length_cons, List.length_nil, Nat.zero_add, Nat.reduceAdd] at c10n; have c10b4 := eq_true c10n; have c10b5 := eq_false (Nat.not_lt.2 c10n)))
      try have c10b2 : (9223372036854775807 < ((⟨#[32, 91]⟩ : ByteArray) ++ t470).size + 1) = False := eq_false (Nat.not_lt.2 c10)
      obtain rfl := Option.some.inj H
      obtain ⟨hcz11_0, hcz11_1, hcz11_2, hcz11_3, hcz11_4, hfz11_0, hfz11_1, hfz11_2, hfz11_3, hfz11_4⟩ := bR5_ BK469.out
      go_wp2_with (first | ((with_reducible refine gate_callee (f := 47) rfl ?_); refine gL_ (some 13) Tryd.func47 #[.int .i64 a0_4] ?_; (with_reducible refine (spec_l2Digits.calls kj1 a0_4 t470 _ A8.out).mono ?_); rintro e w12 ⟨rfl, hb⟩; refine ⟨_, rfl, ?_⟩; have n0 := aM_ (nB_ BK469.out hb); have n1 := aM_ (sT_ HB.out hb); clear BK469; clear HB; have BK469 := n0; have HB := n1; clear n0 n1))
      (all_goals try (exfalso; have e1_ : (⟨#[32]⟩ : ByteArray).size = 1 := rfl; have e2_ : (⟨#[10]⟩ : ByteArray).size = 1 := rfl; simp only [ByteArray.size_append] at c10; omega))
      go_ret
      exact fI_ HB.out
     ·rw [if_neg c10] at H
      exact absurd H (by simp)
    ·rw [if_neg c9] at H
     exact absurd H (by simp)
   ·replace c7 := Bool.eq_false_iff.mpr c7
    subst c7
    have H1 : ((spec_l2Digits.f kj1 a0_4).bind fun t471 => (if 2 + t471.size ≤ 9223372036854775807 then (if ((⟨#[32, 91]⟩ : ByteArray) ++ t471).size + 2 ≤ 9223372036854775807 then ((spec_l2Digits.f kj1 a0_2).bind fun t472 => (if (((⟨#[32, 91]⟩ : ByteArray) ++ t471) ++ (⟨#[43, 114]⟩ : ByteArray)).size + t472.size ≤ 9223372036854775807 then (if ((((⟨#[32, 91]⟩ : ByteArray) ++ t471) ++ (⟨#[43, 114]⟩ : ByteArray)) ++ t472).size + 1 ≤ 9223372036854775807 then (some (((((⟨#[32, 91]⟩ : ByteArray) ++ t471) ++ (⟨#[43, 114]⟩ : ByteArray)) ++ t472) ++ (⟨#[93]⟩ : ByteArray))) else (none)) else (none))) else (none)) else (none))) = some r := by rw [if_neg (show ¬ (false = true) by decide)] at H; exact H
    clear H
    have H := H1
    clear H1
    replace H := Option.bind_eq_some_iff.mp H
    obtain ⟨t471, A130, H⟩ := H
    replace H : (if 2 + t471.size ≤ 9223372036854775807 then (if ((⟨#[32, 91]⟩ : ByteArray) ++ t471).size + 2 ≤ 9223372036854775807 then ((spec_l2Digits.f kj1 a0_2).bind fun t472 => (if (((⟨#[32, 91]⟩ : ByteArray) ++ t471) ++ (⟨#[43, 114]⟩ : ByteArray)).size + t472.size ≤ 9223372036854775807 then (if ((((⟨#[32, 91]⟩ : ByteArray) ++ t471) ++ (⟨#[43, 114]⟩ : ByteArray)) ++ t472).size + 1 ≤ 9223372036854775807 then (some (((((⟨#[32, 91]⟩ : ByteArray) ++ t471) ++ (⟨#[43, 114]⟩ : ByteArray)) ++ t472) ++ (⟨#[93]⟩ : ByteArray))) else (none)) else (none))) else (none)) else (none)) = some r := H
    have A13 := aM_ A130
    clear A130
    by_cases c14 : 2 + t471.size ≤ 9223372036854775807
    ·rw [if_pos c14] at H
     have c14b0 := eq_true c14
     have c14b1 : decide (2 + t471.size ≤ 9223372036854775807) = true := decide_eq_true c14
     try have c14b2 : (9223372036854775807 < 2 + t471.size) = False := eq_false (Nat.not_lt.2 c14)
     by_cases c15 : ((⟨#[32, 91]⟩ : ByteArray) ++ t471).size + 2 ≤ 9223372036854775807
     ·rw [if_pos c15] at H
      have c15b0 := eq_true c15
      have c15b1 : decide (((⟨#[32, 91]⟩ : ByteArray) ++ t471).size + 2 ≤ 9223372036854775807) = true := decide_eq_true c15
      (try (have c15n := c15; simp only [ByteArray.size_append, Tab.sz_mk, List.size_toArray, List.length_cons, List.length_nil, Nat.zero_add, Nat.reduceAdd] at c15n; have c15b4 := eq_true c15n; have c15b5 := eq_false (Nat.not_lt.2 c15n)))
      try have c15b2 : (9223372036854775807 < ((⟨#[32, 91]⟩ : ByteArray) ++ t471).size + 2) = False := eq_false (Nat.not_lt.2 c15)
      replace H := Option.bind_eq_some_iff.mp H
      obtain ⟨t472, A160, H⟩ := H
      replace H : (if (((⟨#[32, 91]⟩ : ByteArray) ++ t471) ++ (⟨#[43, 114]⟩ : ByteArray)).size + t472.size ≤ 9223372036854775807 then (if ((((⟨#[32, 91]⟩ : ByteArray) ++ t471) ++ (⟨#[43, 114]⟩ : ByteArray)) ++ t472).size + 1 ≤ 9223372036854775807 then (some (((((⟨#[32, 91]⟩ : ByteArray) ++ t471) ++ (⟨#[43, 114]⟩ : ByteArray)) ++ t472) ++ (⟨#[93]⟩ : ByteArray))) else (none)) else (none)) = some r := H
      have A16 := aM_ A160
      clear A160
      by_cases c17 : (((⟨#[32, 91]⟩ : ByteArray) ++ t471) ++ (⟨#[43, 114]⟩ : ByteArray)).size + t472.size ≤ 9223372036854775807
      ·rw [if_pos c17] at H
       have c17b0 := eq_true c17
       have c17b1 : decide ((((⟨#[32, 91]⟩ : ByteArray) ++ t471) ++ (⟨#[43, 114]⟩ : ByteArray)).size + t472.size ≤ 9223372036854775807) = true := decide_eq_true c17
       (try (have c17n := c17; simp only [ByteArray.size_append, Tab.sz_mk, List.size_toArray, List.length_cons, List.length_nil, Nat.zero_add, Nat.reduceAdd] at c17n; have c17b4 := eq_true c17n; have c17b5 := eq_false (Nat.not_lt.2 c17n)))
       try have c17b2 : (9223372036854775807 < (((⟨#[32, 91]⟩ : ByteArray) ++ t471) ++ (⟨#[43, 114]⟩ : ByteArray)).size + t472.size) = False := eq_false (Nat.not_lt.2 c17)
       by_cases c18 : ((((⟨#[32, 91]⟩ : ByteArray) ++ t471) ++ (⟨#[43, 114]⟩ : ByteArray)) ++ t472).size + 1 ≤ 9223372036854775807
       ·rw [if_pos c18] at H
        have c18b0 := eq_true c18
        have c18b1 : decide (((((⟨#[32, 91]⟩ : ByteArray) ++ t471) ++ (⟨#[43, 114]⟩ : ByteArray)) ++ t472).size + 1 ≤ 9223372036854775807) = true := decide_eq_true c18
        (try (have c18n := c18; simp only [ByteArray.size_append, Tab.sz_mk, List.size_toArray, List.length_cons, List.length_nil, Nat.zero_add, Nat.reduceAdd] at c18n; have c18b4 := eq_true c18n; have c18b5 := eq_false (Nat.not_lt.2 c18n)))
        try have c18b2 : (9223372036854775807 < ((((⟨#[32, 91]⟩ : ByteArray) ++ t471) ++ (⟨#[43, 114]⟩ : ByteArray)) ++ t472).size + 1) = False := eq_false (Nat.not_lt.2 c18)
        obtain rfl := Option.some.inj H
        try go_wp2
        have n0 := aM_ (blk_drew BK469.out)
        have n1 := aM_ (below_drew1 HB.out)
        clear BK469
        clear HB
        have BK469 := n0
        have HB := n1
        clear n0 n1
        refine start_ (n := 11) (S := fun w' => w'.cell? ⟨gb469, 0, none⟩ = some (.int .i64 a0_0) ∧ w'.cell? ⟨gb469, 1, none⟩ = some (.int .i64 a0_1) ∧ w'.cell? ⟨gb469, 2, none⟩ = some (.int .i64 a0_2) ∧ w'.cell? ⟨gb469, 3, none⟩ = some (.int .i64 a0_3) ∧ w'.cell? ⟨gb469, 4, none⟩ = some (.int .i64 a0_4)) (ds := []) (mk_ 11 0) (by kernel_rfl) rfl rfl (bC5_ BK469.out) (fun hHeld => ?_); refine with_tabW spec_l16Cell.tab3 spec_l16Cell.bits3 (fun HT_ HW_ => ?_)
        generalize wc.drew = w19 at BK469 HB hHeld ⊢
        refine pU_ 0 (some 16) (mk_ 11 1) ?_
        refine pU_ 5 (some 21) (mk_ 11 33) ?_
        refine tK5_ 1 (some 17) (mk_ 11 35) ?_
        refine tK5_ 6 (some 22) (mk_ 11 99) ?_
        refine oN_ 2 (some 18) (mk_ 11 103) (fun K hK => ?_)
        refine gO_ Tryd.func47 #[.int .i64 a0_4] ?_
        with_reducible refine (spec_l2Digits.calls kj1 a0_4 t471 _ A13.out).mono ?_
        rintro e w20 ⟨rfl, hb⟩
        refine ⟨_, rfl, ?_⟩
        have n0 := aM_ (nB_ BK469.out hb)
        have n1 := aM_ (sT_ HB.out hb)
        clear BK469
        clear HB
        have BK469 := n0
        have HB := n1
        clear n0 n1
        (try clear hb)
        (try clear hb2)
        (try clear hk)
        (try clear hi)
        refine hK.out _ _ (bC5_ BK469.out) (fun hHeld => ?_)
        clear hK K
        refine norm_ (a' := ?_) ?_ ?_
        rotate_left
        ·show Act.put _ (some 18) _ = _
         simp only [pt_, pn_, sI_, s0_, s1_, i64_w, i32_w]
         rfl
        refine pU_ 3 (some 19) (mk_ 11 111) ?_
        refine pU_ 4 (some 20) (mk_ 11 127) ?_
        refine oN_ 7 (some 23) (mk_ 11 255) (fun K hK => ?_)
        refine gO_ Tryd.func47 #[.int .i64 a0_2] ?_
        with_reducible refine (spec_l2Digits.calls kj1 a0_2 t472 _ A16.out).mono ?_
        rintro e w21 ⟨rfl, hb⟩
        refine ⟨_, rfl, ?_⟩
        have n0 := aM_ (nB_ BK469.out hb)
        have n1 := aM_ (sT_ HB.out hb)
        clear BK469
        clear HB
        have BK469 := n0
        have HB := n1
        clear n0 n1
        (try clear hb)
        (try clear hb2)
        (try clear hk)
        (try clear hi)
        refine hK.out _ _ (bC5_ BK469.out) (fun hHeld => ?_)
        clear hK K
        refine norm_ (a' := ?_) ?_ ?_
        rotate_left
        ·show Act.put _ (some 23) _ = _
         simp only [pt_, pn_, sI_, s0_, s1_, i64_w, i32_w]
         rfl
        refine pU_ 8 (some 24) (mk_ 11 511) ?_
        refine pU_ 9 (some 25) (mk_ 11 1023) ?_
        refine pU_ 10 (some 2) (mk_ 11 2047) ?_
        refine done_ (done_of HT_.out (by kernel_rfl)) ?_
        try go_wp2
        go_ret
        exact fI_ HB.out
       ·rw [if_neg c18] at H
        exact absurd H (by simp)
      ·rw [if_neg c17] at H
       exact absurd H (by simp)
     ·rw [if_neg c15] at H
      exact absurd H (by simp)
    ·rw [if_neg c14] at H
     exact absurd H (by simp)
end Go.Proofs.YtdbobicbbfmepaaDoor.PFnTexts
