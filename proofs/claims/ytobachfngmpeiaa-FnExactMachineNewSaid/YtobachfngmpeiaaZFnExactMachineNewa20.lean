/- A part of the proof that the law FnExactMachineNew holds for every input. -/
import Derived.Test.YtobachfngmpeiaaZFnExactMachineNewa19
import Derived.Test.YtobachfngmpeiaaZFnExactMachineNews
namespace Go.Proofs.Ytobachfngmpeiaa.PFnExactMachineNew
open Go.RowKit Go.Proofs.YtobachfngmpeiaaW.PrintWords Go.Proofs.YtobachfngmpeiaaW.PrintLast Go.Proofs.YtobachfngmpeiaaW.PrintMore
attribute [local go_sem] max2_int min2_int max_two min_two max_three min_three max_four min_four   -- for this text's walks alone
set_option linter.unusedVariables false
set_option linter.unusedSimpArgs false
mutual
def spec_MachineOk.j0 : Nat → Int → Bool → List (List (S175)) → List (S123) → List (List (S170)) → List (S35) → Option (Bool)
  | 0, _, _, _, _, _, _ => none
  | k + 1, x3, x31, x150000, x150001, x150002, x150003 => if x31 = true then (some false) else (spec_MachineOk.l0 k x3 0 x150000 x150001 x150002 x150003)
def spec_MachineOk.l0 : Nat → Int → Int → List (List (S175)) → List (S123) → List (List (S170)) → List (S35) → Option (Bool)
  | 0, _, _, _, _, _, _ => none
  | k + 1, x3, x4, x150000, x150001, x150002, x150003 => if x4 < x3 then (if 0 ≤ x4 then (if x4 < (x150001.length : Int) then (if x4 < (x150000.length : Int) then ((spec_CodeOk.f k (rd_L4 x150000 x4)).bind fun t155 => (if t155 = true then (if (((rd_T123 x150001 x4).f1).length : Int) = 8 then ((spec_l1In.f ((rd_T123 x150001 x4).f0) 0 (wrap64 (((rd_L4 x150000 x4).length : Int) - 1))).bind fun t157 => (if t157 = true then ((spec_l1In.f ((rd_T123 x150001 x4).f3) 0 2).bind fun t158 => (if t158 = true then ((spec_ViewOk.f k x150002 ((rd_T123 x150001 x4).f2)).bind fun t159 => (spec_MachineOk.j2 k x3 x4 (!t159) x150000 x150001 x150002 x150003)) else (spec_MachineOk.j2 k x3 x4 true x150000 x150001 x150002 x150003))) else (spec_MachineOk.j2 k x3 x4 true x150000 x150001 x150002 x150003))) else (spec_MachineOk.j2 k x3 x4 true x150000 x150001 x150002 x150003)) else (spec_MachineOk.j2 k x3 x4 true x150000 x150001 x150002 x150003))) else (none)) else (none)) else (none)) else (spec_MachineOk.l1 k x3 0 x150000 x150001 x150002 x150003)
def spec_MachineOk.j2 : Nat → Int → Int → Bool → List (List (S175)) → List (S123) → List (List (S170)) → List (S35) → Option (Bool)
  | 0, _, _, _, _, _, _, _ => none
  | k + 1, x3, x4, x81, x150000, x150001, x150002, x150003 => if x81 = true then (some false) else (spec_MachineOk.l0 k x3 (wrap64 (x4 + 1)) x150000 x150001 x150002 x150003)
def spec_MachineOk.l1 : Nat → Int → Int → List (List (S175)) → List (S123) → List (List (S170)) → List (S35) → Option (Bool)
  | 0, _, _, _, _, _, _ => none
  | k + 1, x3, x6, x150000, x150001, x150002, x150003 => if x6 < (x150003.length : Int) then (if 0 ≤ x6 then ((spec_l1In.f ((rd_T35 x150003 x6).f0) 0 (wrap64 (x3 - 1))).bind fun t161 => (if t161 = true then (spec_MachineOk.l1 k x3 (wrap64 (x6 + 1)) x150000 x150001 x150002 x150003) else (some false))) else (none)) else (some true)
end
def spec_MachineOk.f (k : Nat) (l0_0 : List (List (S175))) (l0_1 : List (S123)) (l0_2 : List (List (S170))) (l0_3 : List (S35)) : Option (Bool) := (spec_l1In.f (l0_0.length : Int) 1 4).bind fun t150 => (if t150 = true then (if (l0_1.length : Int) = (l0_0.length : Int) then ((spec_MemoryOk.f k l0_2).bind fun t151 => (if t151 = true then (spec_MachineOk.j0 k (l0_0.length : Int) (decide ((l0_3.length : Int) > 4000)) l0_0 l0_1 l0_2 l0_3) else (spec_MachineOk.j0 k (l0_0.length : Int) true l0_0 l0_1 l0_2 l0_3))) else (spec_MachineOk.j0 k (l0_0.length : Int) true l0_0 l0_1 l0_2 l0_3)) else (spec_MachineOk.j0 k (l0_0.length : Int) true l0_0 l0_1 l0_2 l0_3))
def spec_MachineOk.T8 : Bool × List (List Nat × List Nat) := (true, [([], []), ([0], [0]), ([], []), ([1, 2], [1, 2]), ([3], [3]), ([4], [4]), ([5], [5]), ([6, 5], [6]), ([7], [7]), ([8, 7], [7, 8]), ([9, 7], [7, 9]), ([10, 7], [7, 10]), ([7, 11], [7, 11]), ([12, 7], [12]), ([13], [13]), ([14, 13], [13, 14]), ([13], [13]), ([16, 13], [13, 16]), ([13], [13]), ([17, 18, 13], [13, 17, 18]), ([19, 13], [13, 19]), ([20, 13], [13, 20]), ([21, 13], [13, 21]), ([15, 22, 13, 13], [13, 15, 22]), ([23, 13], [13, 23]), ([13, 24], [13, 24]), ([25, 23], [25]), ([26], [26]), ([27, 26], [26, 27]), ([28, 26, 26], [26, 28]), ([29, 26], [26, 29]), ([26, 30], [26, 30]), ([31, 29], [31]), ([32], [32]), ([33, 32], [32, 33]), ([32], [32]), ([35, 32], [32, 35]), ([34, 36, 32, 32], [32, 34, 36]), ([37, 32], [32, 37]), ([32, 38], [32, 38])])
def spec_MachineOk.B8 : List Nat := [0, 1, 0, 7, 15, 31, 63, 127, 255, 511, 1023, 2047, 4095, 8191, 16383, 32767, 16383, 81919, 16383, 475135, 999423, 2047999, 4145151, 8388607, 16777215, 33554431, 67108863, 134217727, 268435455, 536870911, 1073741823, 2147483647, 4294967295, 8589934591, 17179869183, 8589934591, 42949672959, 137438953471, 274877906943, 549755813887]
theorem spec_MachineOk.tab8 : rtab .any (opsOf Try.f78 8) = spec_MachineOk.T8 := by kernel_rfl
theorem spec_MachineOk.bits8 : waitsOk spec_MachineOk.T8.2 spec_MachineOk.B8 = true := by kernel_rfl
set_option maxHeartbeats 8000000 in
set_option maxRecDepth 100000 in
theorem spec_MachineOk.calls (k : Nat) (A0_0 : Option Addr) (c0_0 : Nat) (l0_0 : List (List (S175))) (A0_1 : Option Addr) (c0_1 : Nat) (l0_1 : List (S123)) (A0_2 : Option Addr) (c0_2 : Nat) (l0_2 : List (List (S170))) (A0_3 : Option Addr) (c0_3 : Nat) (l0_3 : List (S35)) (r : Bool) (w : World) (hr0_0 : Kd.C (Kd.slice 175 k175) w A0_0 l0_0.length l0_0) (hc0_0 : l0_0.length ≤ c0_0) (hr0_1 : Kd.C k123 w A0_1 l0_1.length l0_1) (hc0_1 : l0_1.length ≤ c0_1) (hr0_2 : Kd.C (Kd.slice 170 k170) w A0_2 l0_2.length l0_2) (hc0_2 : l0_2.length ≤ c0_2) (hr0_3 : Kd.C k35 w A0_3 l0_3.length l0_3) (hc0_3 : l0_3.length ≤ c0_3) (h : spec_MachineOk.f k l0_0 l0_1 l0_2 l0_3 = some r) :
  Calls Try.prog 78 #[.agg #[.slice A0_0 l0_0.length c0_0, .slice A0_1 l0_1.length c0_1, .slice A0_2 l0_2.length c0_2, .slice A0_3 l0_3.length c0_3]] w fun e w' => e = .returned (.bool r) ∧ Below w.heap.size w w' := by
 have hu59 := Try.underlying59
 have hu57 := Try.underlying57
 have hu123 := Try.underlying123
 have HR0_0 := aM_ hr0_0
 have HC0_0 := aM_ hc0_0
 clear hr0_0 hc0_0
 have HR0_1 := aM_ hr0_1
 have HC0_1 := aM_ hc0_1
 clear hr0_1 hc0_1
 have HR0_2 := aM_ hr0_2
 have HC0_2 := aM_ hc0_2
 clear hr0_2 hc0_2
 have HR0_3 := aM_ hr0_3
 have HC0_3 := aM_ hc0_3
 clear hr0_3 hc0_3
 have HB := aM_ (Below.refl w.heap.size w)
 have H : ((spec_l1In.f (l0_0.length : Int) 1 4).bind fun t150 => (if t150 = true then (if (l0_1.length : Int) = (l0_0.length : Int) then ((spec_MemoryOk.f k l0_2).bind fun t151 => (if t151 = true then (spec_MachineOk.j0 k (l0_0.length : Int) (decide ((l0_3.length : Int) > 4000)) l0_0 l0_1 l0_2 l0_3) else (spec_MachineOk.j0 k (l0_0.length : Int) true l0_0 l0_1 l0_2 l0_3))) else (spec_MachineOk.j0 k (l0_0.length : Int) true l0_0 l0_1 l0_2 l0_3)) else (spec_MachineOk.j0 k (l0_0.length : Int) true l0_0 l0_1 l0_2 l0_3))) = some r := h
 clear h
 have HC2 := aM_ H
 clear H
 go_enter Try.func78, Try.ntmps78
 go_upto_region 2 with (first | ((with_reducible refine gate_dst (N := 1) rfl ?_); (try (refine gate_guard (by rfl) ?_; dsimp only)); refine bX_ 1 (cs := #[.slice A0_0 l0_0.length c0_0, .slice A0_1 l0_1.length c0_1, .slice A0_2 l0_2.length c0_2, .slice A0_3 l0_3.length c0_3]) (t := 59) ?_; intro gb149 hg w3 hbox hb; have BK149 := aM_ (hbox); have GE149 := aM_ (sZ_ hg HB.out); replace HB := aM_ (sT_ HB.out hb); clear hb hbox hg; have z_4 := bR4_ BK149.out))
 (try simp only [Act.put, List.setIfInBounds_toArray, List.set_cons_zero, List.set_cons_succ])
 go_cut [31] (fun v31 wc => ∃ (kq : Nat) (x31_1 : Bool), v31 = .bool x31_1 ∧ Aside0 (spec_MachineOk.j0 kq (l0_0.length : Int) x31_1 l0_0 l0_1 l0_2 l0_3 = some r) ∧ Aside0 (kq ≤ k) ∧ Aside0 (wc.heap[gb149]? = some (.cells #[(.slice A0_0 l0_0.length c0_0), (.slice A0_1 l0_1.length c0_1), (.slice A0_2 l0_2.length c0_2), (.slice A0_3 l0_3.length c0_3)] 59 (0, 0))) ∧ Aside0 (Below w.heap.size w wc))
 case first =>
  have H := HC2.out
  clear HC2
  replace H := Option.bind_eq_some_iff.mp H
  obtain ⟨t150, A50, H⟩ := H
  replace H : (if t150 = true then (if (l0_1.length : Int) = (l0_0.length : Int) then ((spec_MemoryOk.f k l0_2).bind fun t151 => (if t151 = true then (spec_MachineOk.j0 k (l0_0.length : Int) (decide ((l0_3.length : Int) > 4000)) l0_0 l0_1 l0_2 l0_3) else (spec_MachineOk.j0 k (l0_0.length : Int) true l0_0 l0_1 l0_2 l0_3))) else (spec_MachineOk.j0 k (l0_0.length : Int) true l0_0 l0_1 l0_2 l0_3)) else (spec_MachineOk.j0 k (l0_0.length : Int) true l0_0 l0_1 l0_2 l0_3)) = some r := H
  have A5 := aM_ A50
  clear A50
  by_cases c6 : t150 = true
  ·subst c6
   have H1 : (if (l0_1.length : Int) = (l0_0.length : Int) then ((spec_MemoryOk.f k l0_2).bind fun t151 => (if t151 = true then (spec_MachineOk.j0 k (l0_0.length : Int) (decide ((l0_3.length : Int) > 4000)) l0_0 l0_1 l0_2 l0_3) else (spec_MachineOk.j0 k (l0_0.length : Int) true l0_0 l0_1 l0_2 l0_3))) else (spec_MachineOk.j0 k (l0_0.length : Int) true l0_0 l0_1 l0_2 l0_3)) = some r := by rw [if_pos rfl] at H; exact H
   clear H
   have H := H1
   clear H1
   by_cases c7 : (l0_1.length : Int) = (l0_0.length : Int)
   ·rw [if_pos c7] at H
    have c7b0 : ((l0_1.length : Int) == (l0_0.length : Int)) = true := beq_iff_eq.mpr c7
    have c7b1 : ((l0_1.length : Int) != (l0_0.length : Int)) = false := bne_eq_false_iff_eq.mpr c7
    have c7b2 : (l0_1.length == l0_0.length) = true := by first | simpa using c7 | (simp at c7 ⊢; omega)
    clear c7
    (first | rw [c7b0] | (simp only [i64_w, i32_w]; rw [c7b0]) | skip)
    replace H := Option.bind_eq_some_iff.mp H
    obtain ⟨t151, A80, H⟩ := H
    replace H : (if t151 = true then (spec_MachineOk.j0 k (l0_0.length : Int) (decide ((l0_3.length : Int) > 4000)) l0_0 l0_1 l0_2 l0_3) else (spec_MachineOk.j0 k (l0_0.length : Int) true l0_0 l0_1 l0_2 l0_3)) = some r := H
    have A8 := aM_ A80
    clear A80
    by_cases c9 : t151 = true
    ·subst c9
     have H1 : (spec_MachineOk.j0 k (l0_0.length : Int) (decide ((l0_3.length : Int) > 4000)) l0_0 l0_1 l0_2 l0_3) = some r := by rw [if_pos rfl] at H; exact H
     clear H
     have H := H1
     clear H1
     have H' := aM_ H
     clear H
     go_wp2_with (first | ((with_reducible refine gate_callee (f := 111) rfl ?_); refine gL_ (some 11) Try.func111 #[.int .i64 (l0_0.length : Int), .int .i64 1, .int .i64 4] ?_; (with_reducible refine (spec_l1In.calls (l0_0.length : Int) 1 4 true _ A5.out).mono ?_); rintro e w' ⟨rfl, ⟨nd, rfl⟩⟩; refine ⟨_, rfl, ?_⟩; have z_10 := bR4_ BK149.out) | (go_at_call 116; (with_reducible refine (spec_MemoryOk.calls k _ _ l0_2 true _ ?side1 ?side2 A8.out).mono ?_); (case side1 => exact cS_ (Kd.C_below HR0_2.out (gB_ HB.out))); (case side2 => exact HC0_2.out); rintro e w11 ⟨rfl, hb⟩; replace BK149 := aM_ (nB_ BK149.out hb); replace HB := aM_ (sT_ HB.out hb); have z_12 := bR4_ BK149.out))
     go_meet
     case rel => exact ⟨_, (decide ((l0_3.length : Int) > 4000)), (by first | rfl | (simp; done) | (simp [*]; done)), H', ⟨by first | omega | exact Nat.le_refl _⟩, ⟨rW_ BK149.out⟩, ⟨gW_ HB.out⟩⟩
    ·replace c9 := Bool.eq_false_iff.mpr c9
     subst c9
     have H1 : (spec_MachineOk.j0 k (l0_0.length : Int) true l0_0 l0_1 l0_2 l0_3) = some r := by rw [if_neg (show ¬ (false = true) by decide)] at H; exact H
     clear H
     have H := H1
     clear H1
     have H' := aM_ H
     clear H
     go_wp2_with (first | ((with_reducible refine gate_callee (f := 111) rfl ?_); refine gL_ (some 11) Try.func111 #[.int .i64 (l0_0.length : Int), .int .i64 1, .int .i64 4] ?_; (with_reducible refine (spec_l1In.calls (l0_0.length : Int) 1 4 true _ A5.out).mono ?_); rintro e w' ⟨rfl, ⟨nd, rfl⟩⟩; refine ⟨_, rfl, ?_⟩; have z_13 := bR4_ BK149.out) | (go_at_call 116; (with_reducible refine (spec_MemoryOk.calls k _ _ l0_2 false _ ?side1 ?side2 A8.out).mono ?_); (case side1 => exact cS_ (Kd.C_below HR0_2.out (gB_ HB.out))); (case side2 => exact HC0_2.out); rintro e w14 ⟨rfl, hb⟩; replace BK149 := aM_ (nB_ BK149.out hb); replace HB := aM_ (sT_ HB.out hb)))
     go_meet
     case rel => exact ⟨_, (true), (by first | rfl | (simp; done) | (simp [*]; done)), H', ⟨by first | omega | exact Nat.le_refl _⟩, ⟨rW_ BK149.out⟩, ⟨gW_ HB.out⟩⟩
   ·rw [if_neg c7] at H
    have c7b0 : ((l0_1.length : Int) == (l0_0.length : Int)) = false := beq_eq_false_iff_ne.mpr c7
    have c7b1 : ((l0_1.length : Int) != (l0_0.length : Int)) = true := bne_iff_ne.mpr c7
    have c7b2 : (l0_1.length == l0_0.length) = false := by first | simpa using c7 | (simp at c7 ⊢; omega)
    (first | rw [c7b0] | (simp only [i64_w, i32_w]; rw [c7b0]) | skip)
    have H' := aM_ H
    clear H
    go_wp2_with (first | ((with_reducible refine gate_callee (f := 111) rfl ?_); refine gL_ (some 11) Try.func111 #[.int .i64 (l0_0.length : Int), .int .i64 1, .int .i64 4] ?_; (with_reducible refine (spec_l1In.calls (l0_0.length : Int) 1 4 true _ A5.out).mono ?_); rintro e w' ⟨rfl, ⟨nd, rfl⟩⟩; refine ⟨_, rfl, ?_⟩; have z_15 := bR4_ BK149.out))
    go_meet
    case rel => exact ⟨_, (true), (by first | rfl | (simp; done) | (simp [*]; done)), H', ⟨by first | omega | exact Nat.le_refl _⟩, ⟨rW_ BK149.out⟩, ⟨gW_ HB.out⟩⟩
  ·replace c6 := Bool.eq_false_iff.mpr c6
   subst c6
   have H1 : (spec_MachineOk.j0 k (l0_0.length : Int) true l0_0 l0_1 l0_2 l0_3) = some r := by rw [if_neg (show ¬ (false = true) by decide)] at H; exact H
   clear H
   have H := H1
   clear H1
   have H' := aM_ H
   clear H
   go_wp2_with (first | ((with_reducible refine gate_callee (f := 111) rfl ?_); refine gL_ (some 11) Try.func111 #[.int .i64 (l0_0.length : Int), .int .i64 1, .int .i64 4] ?_; (with_reducible refine (spec_l1In.calls (l0_0.length : Int) 1 4 false _ A5.out).mono ?_); rintro e w' ⟨rfl, ⟨nd, rfl⟩⟩; refine ⟨_, rfl, ?_⟩))
   go_meet
   case rel => exact ⟨_, (true), (by first | rfl | (simp; done) | (simp [*]; done)), H', ⟨by first | omega | exact Nat.le_refl _⟩, ⟨rW_ BK149.out⟩, ⟨gW_ HB.out⟩⟩
 case rest =>
  clear HC2
  try clear c1
  try clear p2
  try clear c6
  try clear c7
  try clear c7b0
  try clear c7b1
  try clear c7b2
  try clear c9
  try clear c11
  try clear z_10
  try clear z_12
  try clear z_13
  try clear z_15
  try clear z_4
  obtain ⟨kq, x31_1, rfl, HA, HJ1, BK149, HB⟩ := hcut
  cases kq with
  | zero => exact absurd HA.out (by simp [spec_MachineOk.j0])
  | succ kj1 =>
   have H := HA.out
   clear HA
   simp only [spec_MachineOk.j0] at H
   by_cases c16 : x31_1 = true
   ·subst c16
    have H1 : (some false) = some r := by rw [if_pos rfl] at H; exact H
    clear H
    have H := H1
    clear H1
    obtain rfl := Option.some.inj H
    go_wp2
    go_ret
    exact fI_ HB.out
   ·replace c16 := Bool.eq_false_iff.mpr c16
    subst c16
    have H1 : (spec_MachineOk.l0 kj1 (l0_0.length : Int) 0 l0_0 l0_1 l0_2 l0_3) = some r := by rw [if_neg (show ¬ (false = true) by decide)] at H; exact H
    clear H
    have H := H1
    clear H1
    have H' := aM_ H
    clear H
    go_wp2
    go_loopg [4] kj1 (fun kq v4 w' => ∃ (x4_2 : Int), v4 = .int .i64 x4_2 ∧ Aside0 (spec_MachineOk.l0 kq (l0_0.length : Int) x4_2 l0_0 l0_1 l0_2 l0_3 = some r) ∧ Aside0 (kq ≤ kj1) ∧ Aside0 (w'.heap[gb149]? = some (.cells #[(.slice A0_0 l0_0.length c0_0), (.slice A0_1 l0_1.length c0_1), (.slice A0_2 l0_2.length c0_2), (.slice A0_3 l0_3.length c0_3)] 59 (0, 0))) ∧ Aside0 (Below w.heap.size w w'))
    case atStart => exact ⟨(0), (by first | rfl | (simp; done) | (simp [*]; done)), H', ⟨Nat.le_refl _⟩, ⟨rW_ BK149.out⟩, ⟨gW_ HB.out⟩⟩
    case round =>
     clear H'
     try clear c1
     try clear p2
     try clear c6
     try clear c7
     try clear c7b0
     try clear c7b1
     try clear c7b2
     try clear c9
     try clear c11
     try clear c16
     try clear z_10
     try clear z_12
     try clear z_13
     try clear z_15
     try clear z_4
     try clear p2
     obtain ⟨x4_2, rfl, HA, HK2, BK149, HB⟩ := hrel
     cases gk with
     | zero => exact absurd HA.out (by simp [spec_MachineOk.l0])
     | succ k2 =>
      have H := HA.out
      clear HA
      simp only [spec_MachineOk.l0] at H
      by_cases c17 : x4_2 < (l0_0.length : Int)
      ·rw [if_pos c17] at H
       have c17b0 : decide (x4_2 < (l0_0.length : Int)) = true := decide_eq_true c17
       clear c17
       by_cases c18 : 0 ≤ x4_2
       ·rw [if_pos c18] at H
        have c18b0 : decide (0 ≤ x4_2) = true := decide_eq_true c18
        clear c18
        by_cases c19 : x4_2 < (l0_1.length : Int)
        ·rw [if_pos c19] at H
         have c19b0 : decide (x4_2 < (l0_1.length : Int)) = true := decide_eq_true c19
         clear c19
         have HC20 := aM_ H
         clear H
         have z_21 := bR4_ BK149.out
         have p152 : 0 ≤ (x4_2 : Int) := of_decide_eq_true (by first | (with_reducible assumption) | assumption)
         have q152 : x4_2 < (l0_1.length : Int) := of_decide_eq_true (by first | (with_reducible assumption) | assumption)
         obtain ⟨ad152, A152_1, c152_1, A152_2, c152_2, e152, hx152_0, hx152_1, hx152_2, hx152_3, hl152_1, hi152_1, hl152_2, hi152_2⟩ := at_T123 HR0_1.out x4_2 p152 q152
         cases e152
         replace hx152_0 := cB_ HB.out hx152_0
         replace hx152_1 := cB_ HB.out hx152_1
         replace hx152_2 := cB_ HB.out hx152_2
         replace hx152_3 := cB_ HB.out hx152_3
         have HR152_1 := aM_ hi152_1
         have HC152_1 := aM_ hl152_1
         clear hi152_1 hl152_1
         have HR152_2 := aM_ hi152_2
         have HC152_2 := aM_ hl152_2
         clear hi152_2 hl152_2
         replace p152 := eq_true p152
         replace q152 := eq_true q152
         go_upto_region 8 with (first | ((with_reducible refine gate_dst (N := 5) rfl ?_); (try (refine gate_guard (by rfl) ?_; dsimp only)); refine bX_ 5 (cs := #[.int .i64 0, .slice none 0 0, .slice none 0 0, .int .i64 0]) (t := 123) ?_; intro gb153 hg w22 hbox hb; have BK153 := aM_ (hbox); have GE153 := aM_ (sZ_ hg HB.out); have NB149_153 := aM_ (nL_ hg BK149.out); have NB153_149 := aM_ (nG_ hg BK149.out); replace BK149 := aM_ (nB_ BK149.out hb); replace HB := aM_ (sT_ HB.out hb); clear hb hbox hg; have hnb23 := NB153_149.out; have hnc23 := NB149_153.out; have z_24 := bR4_ BK153.out))
         (try simp only [Act.put, List.setIfInBounds_toArray, List.set_cons_zero, List.set_cons_succ])
         go_cut [81] (fun v81 wc => ∃ (kq : Nat) (x81_19 : Bool), v81 = .bool x81_19 ∧ Aside0 (spec_MachineOk.j2 kq (l0_0.length : Int) x4_2 x81_19 l0_0 l0_1 l0_2 l0_3 = some r) ∧ Aside0 (kq ≤ k2) ∧ Aside0 (wc.heap[gb149]? = some (.cells #[(.slice A0_0 l0_0.length c0_0), (.slice (some ad152) l0_1.length c0_1), (.slice A0_2 l0_2.length c0_2), (.slice A0_3 l0_3.length c0_3)] 59 (0, 0))) ∧ Aside0 (wc.heap[gb153]? = some (.cells #[.int .i64 ((rd_T123 l0_1 x4_2).f0), (.slice A152_1 ((rd_T123 l0_1 x4_2).f1).length c152_1), (.slice A152_2 ((rd_T123 l0_1 x4_2).f2).length c152_2), .int .i64 ((rd_T123 l0_1 x4_2).f3)] 123 (0, 0))) ∧ Aside0 (Below w.heap.size w wc))
         case first =>
          have H := HC20.out
          clear HC20
          by_cases c25 : x4_2 < (l0_0.length : Int)
          ·rw [if_pos c25] at H
           have c25b0 : decide (x4_2 < (l0_0.length : Int)) = true := decide_eq_true c25
           clear c25
           (first | rw [c25b0] | (simp only [i64_w, i32_w]; rw [c25b0]) | skip)
           replace H := Option.bind_eq_some_iff.mp H
           obtain ⟨t155, A260, H⟩ := H
           replace H : (if t155 = true then (if (((rd_T123 l0_1 x4_2).f1).length : Int) = 8 then ((spec_l1In.f ((rd_T123 l0_1 x4_2).f0) 0 (wrap64 (((rd_L4 l0_0 x4_2).length : Int) - 1))).bind fun t157 => (if t157 = true then ((spec_l1In.f ((rd_T123 l0_1 x4_2).f3) 0 2).bind fun t158 => (if t158 = true then ((spec_ViewOk.f k2 l0_2 ((rd_T123 l0_1 x4_2).f2)).bind fun t159 => (spec_MachineOk.j2 k2 (l0_0.length : Int) x4_2 (!t159) l0_0 l0_1 l0_2 l0_3)) else (spec_MachineOk.j2 k2 (l0_0.length : Int) x4_2 true l0_0 l0_1 l0_2 l0_3))) else (spec_MachineOk.j2 k2 (l0_0.length : Int) x4_2 true l0_0 l0_1 l0_2 l0_3))) else (spec_MachineOk.j2 k2 (l0_0.length : Int) x4_2 true l0_0 l0_1 l0_2 l0_3)) else (spec_MachineOk.j2 k2 (l0_0.length : Int) x4_2 true l0_0 l0_1 l0_2 l0_3)) = some r := H
           have A26 := aM_ A260
           clear A260
           by_cases c27 : t155 = true
           ·subst c27
            have H1 : (if (((rd_T123 l0_1 x4_2).f1).length : Int) = 8 then ((spec_l1In.f ((rd_T123 l0_1 x4_2).f0) 0 (wrap64 (((rd_L4 l0_0 x4_2).length : Int) - 1))).bind fun t157 => (if t157 = true then ((spec_l1In.f ((rd_T123 l0_1 x4_2).f3) 0 2).bind fun t158 => (if t158 = true then ((spec_ViewOk.f k2 l0_2 ((rd_T123 l0_1 x4_2).f2)).bind fun t159 => (spec_MachineOk.j2 k2 (l0_0.length : Int) x4_2 (!t159) l0_0 l0_1 l0_2 l0_3)) else (spec_MachineOk.j2 k2 (l0_0.length : Int) x4_2 true l0_0 l0_1 l0_2 l0_3))) else (spec_MachineOk.j2 k2 (l0_0.length : Int) x4_2 true l0_0 l0_1 l0_2 l0_3))) else (spec_MachineOk.j2 k2 (l0_0.length : Int) x4_2 true l0_0 l0_1 l0_2 l0_3)) = some r := by rw [if_pos rfl] at H; exact H
            clear H
            have H := H1
            clear H1
            by_cases c28 : (((rd_T123 l0_1 x4_2).f1).length : Int) = 8
            ·rw [if_pos c28] at H
             have c28b0 : ((((rd_T123 l0_1 x4_2).f1).length : Int) == 8) = true := beq_iff_eq.mpr c28
             have c28b1 : ((((rd_T123 l0_1 x4_2).f1).length : Int) != 8) = false := bne_eq_false_iff_eq.mpr c28
             clear c28
             replace H := Option.bind_eq_some_iff.mp H
             obtain ⟨t157, A290, H⟩ := H
             replace H : (if t157 = true then ((spec_l1In.f ((rd_T123 l0_1 x4_2).f3) 0 2).bind fun t158 => (if t158 = true then ((spec_ViewOk.f k2 l0_2 ((rd_T123 l0_1 x4_2).f2)).bind fun t159 => (spec_MachineOk.j2 k2 (l0_0.length : Int) x4_2 (!t159) l0_0 l0_1 l0_2 l0_3)) else (spec_MachineOk.j2 k2 (l0_0.length : Int) x4_2 true l0_0 l0_1 l0_2 l0_3))) else (spec_MachineOk.j2 k2 (l0_0.length : Int) x4_2 true l0_0 l0_1 l0_2 l0_3)) = some r := H
             have A29 := aM_ A290
             clear A290
             by_cases c30 : t157 = true
             ·subst c30
              have H1 : ((spec_l1In.f ((rd_T123 l0_1 x4_2).f3) 0 2).bind fun t158 => (if t158 = true then ((spec_ViewOk.f k2 l0_2 ((rd_T123 l0_1 x4_2).f2)).bind fun t159 => (spec_MachineOk.j2 k2 (l0_0.length : Int) x4_2 (!t159) l0_0 l0_1 l0_2 l0_3)) else (spec_MachineOk.j2 k2 (l0_0.length : Int) x4_2 true l0_0 l0_1 l0_2 l0_3))) = some r := by rw [if_pos rfl] at H; exact H
              clear H
              have H := H1
              clear H1
              replace H := Option.bind_eq_some_iff.mp H
              obtain ⟨t158, A310, H⟩ := H
              replace H : (if t158 = true then ((spec_ViewOk.f k2 l0_2 ((rd_T123 l0_1 x4_2).f2)).bind fun t159 => (spec_MachineOk.j2 k2 (l0_0.length : Int) x4_2 (!t159) l0_0 l0_1 l0_2 l0_3)) else (spec_MachineOk.j2 k2 (l0_0.length : Int) x4_2 true l0_0 l0_1 l0_2 l0_3)) = some r := H
              have A31 := aM_ A310
              clear A310
              by_cases c32 : t158 = true
              ·subst c32
               have H1 : ((spec_ViewOk.f k2 l0_2 ((rd_T123 l0_1 x4_2).f2)).bind fun t159 => (spec_MachineOk.j2 k2 (l0_0.length : Int) x4_2 (!t159) l0_0 l0_1 l0_2 l0_3)) = some r := by rw [if_pos rfl] at H; exact H
               clear H
               have H := H1
               clear H1
               replace H := Option.bind_eq_some_iff.mp H
               obtain ⟨t159, A330, H⟩ := H
               replace H : (spec_MachineOk.j2 k2 (l0_0.length : Int) x4_2 (!t159) l0_0 l0_1 l0_2 l0_3) = some r := H
               have A33 := aM_ A330
               clear A330
               have H' := aM_ H
               clear H
               try go_wp2
               have n0 : Aside0 (((((w22.setCell ⟨gb153, 0, none⟩ (.int .i64 ((rd_T123 l0_1 x4_2).f0))).setCell ⟨gb153, 1, none⟩ (.slice A152_1 ((rd_T123 l0_1 x4_2).f1).length c152_1)).setCell ⟨gb153, 2, none⟩ (.slice A152_2 ((rd_T123 l0_1 x4_2).f2).length c152_2)).setCell ⟨gb153, 3, none⟩ (.int .i64 ((rd_T123 l0_1 x4_2).f3))).heap[gb149]? = some (.cells #[.slice A0_0 l0_0.length c0_0, .slice (some ad152) l0_1.length c0_1, .slice A0_2 l0_2.length c0_2, .slice A0_3 l0_3.length c0_3] 59 (0, 0))) := ⟨rWf_ BK149.out⟩
               have n1 : Aside0 (((((w22.setCell ⟨gb153, 0, none⟩ (.int .i64 ((rd_T123 l0_1 x4_2).f0))).setCell ⟨gb153, 1, none⟩ (.slice A152_1 ((rd_T123 l0_1 x4_2).f1).length c152_1)).setCell ⟨gb153, 2, none⟩ (.slice A152_2 ((rd_T123 l0_1 x4_2).f2).length c152_2)).setCell ⟨gb153, 3, none⟩ (.int .i64 ((rd_T123 l0_1 x4_2).f3))).heap[gb153]? = some (.cells #[.int .i64 ((rd_T123 l0_1 x4_2).f0), .slice A152_1 ((rd_T123 l0_1 x4_2).f1).length c152_1, .slice A152_2 ((rd_T123 l0_1 x4_2).f2).length c152_2, .int .i64 ((rd_T123 l0_1 x4_2).f3)] 123 (0, 0))) := ⟨by (with_reducible repeat (first | refine bN_ ?_ _ | refine bD_ ?_ | refine bA_ ?_ _)); refine blk_put (cs := #[.int .i64 ((rd_T123 l0_1 x4_2).f0), .slice A152_1 ((rd_T123 l0_1 x4_2).f1).length c152_1, .slice A152_2 ((rd_T123 l0_1 x4_2).f2).length c152_2, .int .i64 0]) ?_ 3 _ rfl; refine blk_put (cs := #[.int .i64 ((rd_T123 l0_1 x4_2).f0), .slice A152_1 ((rd_T123 l0_1 x4_2).f1).length c152_1, .slice none 0 0, .int .i64 0]) ?_ 2 _ rfl; refine blk_put (cs := #[.int .i64 ((rd_T123 l0_1 x4_2).f0), .slice none 0 0, .slice none 0 0, .int .i64 0]) ?_ 1 _ rfl; refine blk_put (cs := #[.int .i64 0, .slice none 0 0, .slice none 0 0, .int .i64 0]) ?_ 0 _ rfl; (with_reducible repeat (first | refine bN_ ?_ _ | refine bD_ ?_ | refine bA_ ?_ _)); exact BK153.out⟩
               have n2 : Aside0 (Below w.heap.size w ((((w22.setCell ⟨gb153, 0, none⟩ (.int .i64 ((rd_T123 l0_1 x4_2).f0))).setCell ⟨gb153, 1, none⟩ (.slice A152_1 ((rd_T123 l0_1 x4_2).f1).length c152_1)).setCell ⟨gb153, 2, none⟩ (.slice A152_2 ((rd_T123 l0_1 x4_2).f2).length c152_2)).setCell ⟨gb153, 3, none⟩ (.int .i64 ((rd_T123 l0_1 x4_2).f3)))) := ⟨gW_ HB.out⟩
               (try clear BK149)
               (try clear BK153)
               (try clear HB)
               generalize ((((w22.setCell ⟨gb153, 0, none⟩ (.int .i64 ((rd_T123 l0_1 x4_2).f0))).setCell ⟨gb153, 1, none⟩ (.slice A152_1 ((rd_T123 l0_1 x4_2).f1).length c152_1)).setCell ⟨gb153, 2, none⟩ (.slice A152_2 ((rd_T123 l0_1 x4_2).f2).length c152_2)).setCell ⟨gb153, 3, none⟩ (.int .i64 ((rd_T123 l0_1 x4_2).f3))) = w34 at n0 n1 n2 ⊢
               have BK149 := n0
               have BK153 := n1
               have HB := n2
               clear n0 n1 n2
               replace BK149 := aM_ (blk_drew BK149.out)
               replace BK153 := aM_ (blk_drew BK153.out)
               replace HB := aM_ (below_drew1 HB.out)
               have p154 : 0 ≤ (x4_2 : Int) := of_decide_eq_true (by first | (with_reducible assumption) | assumption)
               have q154 : x4_2 < (l0_0.length : Int) := of_decide_eq_true (by first | (with_reducible assumption) | assumption)
               obtain ⟨ad154, A154_0, c154_0, e154, hx154_0, hl154_0, hi154_0⟩ := at_L4 HR0_0.out x4_2 p154 q154
               have hw154_0 := hx154_0
               cases e154
               replace hx154_0 := cB_ HB.out hx154_0
               have HR154_0 := aM_ hi154_0
               have HC154_0 := aM_ hl154_0
               clear hi154_0 hl154_0
               replace p154 := eq_true p154
               replace q154 := eq_true q154
               have p156 : 0 ≤ (x4_2 : Int) := of_decide_eq_true (by first | (with_reducible assumption) | assumption)
               have q156 : x4_2 < (l0_0.length : Int) := of_decide_eq_true (by first | (with_reducible assumption) | assumption)
               obtain ⟨ad156, A156_0, c156_0, e156, hx156_0, hl156_0, hi156_0⟩ := at_L4 HR0_0.out x4_2 p156 q156
               have hw156_0 := hx156_0
               obtain rfl : ad154 = ad156 := (by injection e156)
               replace hx156_0 := cB_ HB.out hx156_0
               have HR156_0 := aM_ hi156_0
               have HC156_0 := aM_ hl156_0
               clear hi156_0 hl156_0
               replace p156 := eq_true p156
               replace q156 := eq_true q156
               refine start_ (n := 40) (S := fun w' => w'.cell? ⟨gb149, 0, none⟩ = some (.slice (some ad154) l0_0.length c0_0) ∧ w'.cell? ⟨gb149, 1, none⟩ = some (.slice (some ad152) l0_1.length c0_1) ∧ w'.cell? ⟨gb149, 2, none⟩ = some (.slice A0_2 l0_2.length c0_2) ∧ w'.cell? ⟨gb149, 3, none⟩ = some (.slice A0_3 l0_3.length c0_3) ∧ w'.cell? ⟨gb153, 0, none⟩ = some (.int .i64 ((rd_T123 l0_1 x4_2).f0)) ∧ w'.cell? ⟨gb153, 1, none⟩ = some (.slice A152_1 ((rd_T123 l0_1 x4_2).f1).length c152_1) ∧ w'.cell? ⟨gb153, 2, none⟩ = some (.slice A152_2 ((rd_T123 l0_1 x4_2).f2).length c152_2) ∧ w'.cell? ⟨gb153, 3, none⟩ = some (.int .i64 ((rd_T123 l0_1 x4_2).f3)) ∧ w'.cell? (ad154.add (x4_2).toNat) = some (.slice A154_0 (rd_L4 l0_0 x4_2).length c154_0) ∧ w'.cell? (ad154.add (x4_2).toNat) = some (.slice A156_0 (rd_L4 l0_0 x4_2).length c156_0)) (ds := []) (mk_ 40 0) (by kernel_rfl) rfl rfl ⟨(blk_cell BK149.out 0).trans rfl, (blk_cell BK149.out 1).trans rfl, (blk_cell BK149.out 2).trans rfl, (blk_cell BK149.out 3).trans rfl, (blk_cell BK153.out 0).trans rfl, (blk_cell BK153.out 1).trans rfl, (blk_cell BK153.out 2).trans rfl, (blk_cell BK153.out 3).trans rfl, (cB_ HB.out hw154_0 :), (cB_ HB.out hw156_0 :)⟩ (fun hHeld => ?_); refine with_tabW spec_MachineOk.tab8 spec_MachineOk.bits8 (fun HT_ HW_ => ?_)
               generalize w34.drew = w35 at BK149 BK153 HB HR154_0 HR156_0 hx154_0 hx156_0 hHeld ⊢
               refine pU_ 0 42 (mk_ 40 1) ?_
               refine pU_ 2 44 (mk_ 40 5) ?_
               refine tK10_ 1 43 (mk_ 40 7) ?_
               refine pU_ 3 45 (mk_ 40 15) ?_
               refine tK10_ 4 46 (mk_ 40 31) ?_
               refine oN_ 5 47 (mk_ 40 63) (fun K hK => ?_)
               refine gO_ Try.func132 #[.slice A154_0 (rd_L4 l0_0 x4_2).length c154_0] ?_
               with_reducible refine (spec_CodeOk.calls k2 _ _ (rd_L4 l0_0 x4_2) true _ ?side1 ?side2 A26.out).mono ?_
               (case side1 => exact cS_ (Kd.C_below HR154_0.out HB.out))
               (case side2 => exact HC154_0.out)
               rintro e w36 ⟨rfl, hb⟩
               refine ⟨_, rfl, ?_⟩
               replace BK149 := aM_ (nB_ BK149.out hb)
               replace BK153 := aM_ (nB_ BK153.out hb)
               replace HB := aM_ (sT_ HB.out hb)
               (try clear hb)
               (try clear hb2)
               (try clear hk)
               (try clear hi)
               refine kO_ hK (some 47) ⟨(blk_cell BK149.out 0).trans rfl, (blk_cell BK149.out 1).trans rfl, (blk_cell BK149.out 2).trans rfl, (blk_cell BK149.out 3).trans rfl, (blk_cell BK153.out 0).trans rfl, (blk_cell BK153.out 1).trans rfl, (blk_cell BK153.out 2).trans rfl, (blk_cell BK153.out 3).trans rfl, (cB_ HB.out hw154_0 :), (cB_ HB.out hw156_0 :)⟩ (fun hHeld => ?_)
               clear hK K
               refine pU_ 6 48 (mk_ 40 127) ?_
               refine pU_ 7 49 (mk_ 40 255) ?_
               refine pU_ 8 50 (mk_ 40 511) ?_
               refine tK10_ 9 51 (mk_ 40 1023) ?_
               refine pU_ 10 52 (mk_ 40 2047) ?_
               refine pU_ 11 53 (mk_ 40 4095) ?_
               refine pU_ 12 54 (mk_ 40 8191) ?_
               refine pU_ 13 55 (mk_ 40 16383) ?_
               refine pU_ 14 56 (mk_ 40 32767) ?_
               refine pU_ 16 58 (mk_ 40 98303) ?_
               refine pU_ 18 60 (mk_ 40 360447) ?_
               refine tK10_ 15 57 (mk_ 40 393215) ?_
               refine tK10_ 17 59 (mk_ 40 524287) ?_
               refine pU_ 19 61 (mk_ 40 1048575) ?_
               refine tK10_ 20 62 (mk_ 40 2097151) ?_
               refine pU_ 21 63 (mk_ 40 4194303) ?_
               refine pU_ 22 64 (mk_ 40 8388607) ?_
               refine oN_ 23 65 (mk_ 40 16777215) (fun K hK => ?_)
               refine gO_ Try.func111 #[.int .i64 ((rd_T123 l0_1 x4_2).f0), .int .i64 0, .int .i64 (wrap64 (((rd_L4 l0_0 x4_2).length : Int) - 1))] ?_
               with_reducible refine (spec_l1In.calls ((rd_T123 l0_1 x4_2).f0) 0 (wrap64 (((rd_L4 l0_0 x4_2).length : Int) - 1)) true _ A29.out).mono ?_
               rintro e w' ⟨rfl, ⟨nd, rfl⟩⟩
               refine ⟨_, rfl, ?_⟩
               refine kO_ hK (some 65) ⟨(blk_cell BK149.out 0).trans rfl, (blk_cell BK149.out 1).trans rfl, (blk_cell BK149.out 2).trans rfl, (blk_cell BK149.out 3).trans rfl, (blk_cell BK153.out 0).trans rfl, (blk_cell BK153.out 1).trans rfl, (blk_cell BK153.out 2).trans rfl, (blk_cell BK153.out 3).trans rfl, (cB_ HB.out hw154_0 :), (cB_ HB.out hw156_0 :)⟩ (fun hHeld => ?_)
               clear hK K
               refine pU_ 24 66 (mk_ 40 33554431) ?_
               refine pU_ 25 67 (mk_ 40 67108863) ?_
               refine pU_ 26 68 (mk_ 40 134217727) ?_
               refine pU_ 27 69 (mk_ 40 268435455) ?_
               refine tK10_ 28 70 (mk_ 40 536870911) ?_
               refine oN_ 29 71 (mk_ 40 1073741823) (fun K hK => ?_)
               refine gO_ Try.func111 #[.int .i64 ((rd_T123 l0_1 x4_2).f3), .int .i64 0, .int .i64 2] ?_
               with_reducible refine (spec_l1In.calls ((rd_T123 l0_1 x4_2).f3) 0 2 true _ A31.out).mono ?_
               rintro e w' ⟨rfl, ⟨nd, rfl⟩⟩
               refine ⟨_, rfl, ?_⟩
               refine kO_ hK (some 71) ⟨(blk_cell BK149.out 0).trans rfl, (blk_cell BK149.out 1).trans rfl, (blk_cell BK149.out 2).trans rfl, (blk_cell BK149.out 3).trans rfl, (blk_cell BK153.out 0).trans rfl, (blk_cell BK153.out 1).trans rfl, (blk_cell BK153.out 2).trans rfl, (blk_cell BK153.out 3).trans rfl, (cB_ HB.out hw154_0 :), (cB_ HB.out hw156_0 :)⟩ (fun hHeld => ?_)
               clear hK K
               refine pU_ 30 72 (mk_ 40 2147483647) ?_
               refine pU_ 31 73 (mk_ 40 4294967295) ?_
               refine pU_ 32 74 (mk_ 40 8589934591) ?_
               refine pU_ 33 75 (mk_ 40 17179869183) ?_
               refine pU_ 35 77 (mk_ 40 51539607551) ?_
               refine tK10_ 34 76 (mk_ 40 68719476735) ?_
               refine tK10_ 36 78 (mk_ 40 137438953471) ?_
               refine oN_ 37 79 (mk_ 40 274877906943) (fun K hK => ?_)
               refine gO_ Try.func133 #[.agg #[.slice A0_2 l0_2.length c0_2], .slice A152_2 ((rd_T123 l0_1 x4_2).f2).length c152_2] ?_
               with_reducible refine (spec_ViewOk.calls k2 _ _ l0_2 _ _ ((rd_T123 l0_1 x4_2).f2) t159 _ ?side1 ?side2 ?side3 ?side4 A33.out).mono ?_
               (case side1 => exact cS_ (Kd.C_below HR0_2.out (gB_ HB.out)))
               (case side2 => exact HC0_2.out)
               (case side3 => exact cS_ (Kd.C_below HR152_2.out (gB_ HB.out)))
               (case side4 => exact HC152_2.out)
               rintro e w37 ⟨rfl, hb⟩
               refine ⟨_, rfl, ?_⟩
               replace BK149 := aM_ (nB_ BK149.out hb)
               replace BK153 := aM_ (nB_ BK153.out hb)
               replace HB := aM_ (sT_ HB.out hb)
               (try clear hb)
               (try clear hb2)
               (try clear hk)
               (try clear hi)
               refine kO_ hK (some 79) ⟨(blk_cell BK149.out 0).trans rfl, (blk_cell BK149.out 1).trans rfl, (blk_cell BK149.out 2).trans rfl, (blk_cell BK149.out 3).trans rfl, (blk_cell BK153.out 0).trans rfl, (blk_cell BK153.out 1).trans rfl, (blk_cell BK153.out 2).trans rfl, (blk_cell BK153.out 3).trans rfl, (cB_ HB.out hw154_0 :), (cB_ HB.out hw156_0 :)⟩ (fun hHeld => ?_)
               clear hK K
               refine pU_ 38 80 (mk_ 40 549755813887) ?_
               refine pU_ 39 81 (mk_ 40 1099511627775) ?_
               refine done_ (done_of HT_.out (by kernel_rfl)) ?_
               try go_wp2
               go_meet
               case rel => exact ⟨_, (!t159), (by first | rfl | (simp; done) | (simp [*]; done)), H', ⟨by have := HJ1.out; have := HK2.out; first | omega | exact Nat.le_refl _⟩, ⟨rW_ BK149.out⟩, ⟨rW_ BK153.out⟩, ⟨gW_ HB.out⟩⟩
              ·replace c32 := Bool.eq_false_iff.mpr c32
               subst c32
               have H1 : (spec_MachineOk.j2 k2 (l0_0.length : Int) x4_2 true l0_0 l0_1 l0_2 l0_3) = some r := by rw [if_neg (show ¬ (false = true) by decide)] at H; exact H
               clear H
               have H := H1
               clear H1
               have H' := aM_ H
               clear H
               try go_wp2
               have n0 : Aside0 (((((w22.setCell ⟨gb153, 0, none⟩ (.int .i64 ((rd_T123 l0_1 x4_2).f0))).setCell ⟨gb153, 1, none⟩ (.slice A152_1 ((rd_T123 l0_1 x4_2).f1).length c152_1)).setCell ⟨gb153, 2, none⟩ (.slice A152_2 ((rd_T123 l0_1 x4_2).f2).length c152_2)).setCell ⟨gb153, 3, none⟩ (.int .i64 ((rd_T123 l0_1 x4_2).f3))).heap[gb149]? = some (.cells #[.slice A0_0 l0_0.length c0_0, .slice (some ad152) l0_1.length c0_1, .slice A0_2 l0_2.length c0_2, .slice A0_3 l0_3.length c0_3] 59 (0, 0))) := ⟨rWf_ BK149.out⟩
               have n1 : Aside0 (((((w22.setCell ⟨gb153, 0, none⟩ (.int .i64 ((rd_T123 l0_1 x4_2).f0))).setCell ⟨gb153, 1, none⟩ (.slice A152_1 ((rd_T123 l0_1 x4_2).f1).length c152_1)).setCell ⟨gb153, 2, none⟩ (.slice A152_2 ((rd_T123 l0_1 x4_2).f2).length c152_2)).setCell ⟨gb153, 3, none⟩ (.int .i64 ((rd_T123 l0_1 x4_2).f3))).heap[gb153]? = some (.cells #[.int .i64 ((rd_T123 l0_1 x4_2).f0), .slice A152_1 ((rd_T123 l0_1 x4_2).f1).length c152_1, .slice A152_2 ((rd_T123 l0_1 x4_2).f2).length c152_2, .int .i64 ((rd_T123 l0_1 x4_2).f3)] 123 (0, 0))) := ⟨by (with_reducible repeat (first | refine bN_ ?_ _ | refine bD_ ?_ | refine bA_ ?_ _)); refine blk_put (cs := #[.int .i64 ((rd_T123 l0_1 x4_2).f0), .slice A152_1 ((rd_T123 l0_1 x4_2).f1).length c152_1, .slice A152_2 ((rd_T123 l0_1 x4_2).f2).length c152_2, .int .i64 0]) ?_ 3 _ rfl; refine blk_put (cs := #[.int .i64 ((rd_T123 l0_1 x4_2).f0), .slice A152_1 ((rd_T123 l0_1 x4_2).f1).length c152_1, .slice none 0 0, .int .i64 0]) ?_ 2 _ rfl; refine blk_put (cs := #[.int .i64 ((rd_T123 l0_1 x4_2).f0), .slice none 0 0, .slice none 0 0, .int .i64 0]) ?_ 1 _ rfl; refine blk_put (cs := #[.int .i64 0, .slice none 0 0, .slice none 0 0, .int .i64 0]) ?_ 0 _ rfl; (with_reducible repeat (first | refine bN_ ?_ _ | refine bD_ ?_ | refine bA_ ?_ _)); exact BK153.out⟩
               have n2 : Aside0 (Below w.heap.size w ((((w22.setCell ⟨gb153, 0, none⟩ (.int .i64 ((rd_T123 l0_1 x4_2).f0))).setCell ⟨gb153, 1, none⟩ (.slice A152_1 ((rd_T123 l0_1 x4_2).f1).length c152_1)).setCell ⟨gb153, 2, none⟩ (.slice A152_2 ((rd_T123 l0_1 x4_2).f2).length c152_2)).setCell ⟨gb153, 3, none⟩ (.int .i64 ((rd_T123 l0_1 x4_2).f3)))) := ⟨gW_ HB.out⟩
               (try clear BK149)
               (try clear BK153)
               (try clear HB)
               generalize ((((w22.setCell ⟨gb153, 0, none⟩ (.int .i64 ((rd_T123 l0_1 x4_2).f0))).setCell ⟨gb153, 1, none⟩ (.slice A152_1 ((rd_T123 l0_1 x4_2).f1).length c152_1)).setCell ⟨gb153, 2, none⟩ (.slice A152_2 ((rd_T123 l0_1 x4_2).f2).length c152_2)).setCell ⟨gb153, 3, none⟩ (.int .i64 ((rd_T123 l0_1 x4_2).f3))) = w38 at n0 n1 n2 ⊢
               have BK149 := n0
               have BK153 := n1
               have HB := n2
               clear n0 n1 n2
               replace BK149 := aM_ (blk_drew BK149.out)
               replace BK153 := aM_ (blk_drew BK153.out)
               replace HB := aM_ (below_drew1 HB.out)
               have p154 : 0 ≤ (x4_2 : Int) := of_decide_eq_true (by first | (with_reducible assumption) | assumption)
               have q154 : x4_2 < (l0_0.length : Int) := of_decide_eq_true (by first | (with_reducible assumption) | assumption)
               obtain ⟨ad154, A154_0, c154_0, e154, hx154_0, hl154_0, hi154_0⟩ := at_L4 HR0_0.out x4_2 p154 q154
               have hw154_0 := hx154_0
               cases e154
               replace hx154_0 := cB_ HB.out hx154_0
               have HR154_0 := aM_ hi154_0
               have HC154_0 := aM_ hl154_0
               clear hi154_0 hl154_0
               replace p154 := eq_true p154
               replace q154 := eq_true q154
               have p156 : 0 ≤ (x4_2 : Int) := of_decide_eq_true (by first | (with_reducible assumption) | assumption)
               have q156 : x4_2 < (l0_0.length : Int) := of_decide_eq_true (by first | (with_reducible assumption) | assumption)
               obtain ⟨ad156, A156_0, c156_0, e156, hx156_0, hl156_0, hi156_0⟩ := at_L4 HR0_0.out x4_2 p156 q156
               have hw156_0 := hx156_0
               obtain rfl : ad154 = ad156 := (by injection e156)
               replace hx156_0 := cB_ HB.out hx156_0
               have HR156_0 := aM_ hi156_0
               have HC156_0 := aM_ hl156_0
               clear hi156_0 hl156_0
               replace p156 := eq_true p156
               replace q156 := eq_true q156
               refine start_ (n := 40) (S := fun w' => w'.cell? ⟨gb149, 0, none⟩ = some (.slice (some ad154) l0_0.length c0_0) ∧ w'.cell? ⟨gb149, 1, none⟩ = some (.slice (some ad152) l0_1.length c0_1) ∧ w'.cell? ⟨gb149, 2, none⟩ = some (.slice A0_2 l0_2.length c0_2) ∧ w'.cell? ⟨gb149, 3, none⟩ = some (.slice A0_3 l0_3.length c0_3) ∧ w'.cell? ⟨gb153, 0, none⟩ = some (.int .i64 ((rd_T123 l0_1 x4_2).f0)) ∧ w'.cell? ⟨gb153, 1, none⟩ = some (.slice A152_1 ((rd_T123 l0_1 x4_2).f1).length c152_1) ∧ w'.cell? ⟨gb153, 2, none⟩ = some (.slice A152_2 ((rd_T123 l0_1 x4_2).f2).length c152_2) ∧ w'.cell? ⟨gb153, 3, none⟩ = some (.int .i64 ((rd_T123 l0_1 x4_2).f3)) ∧ w'.cell? (ad154.add (x4_2).toNat) = some (.slice A154_0 (rd_L4 l0_0 x4_2).length c154_0) ∧ w'.cell? (ad154.add (x4_2).toNat) = some (.slice A156_0 (rd_L4 l0_0 x4_2).length c156_0)) (ds := []) (mk_ 40 0) (by kernel_rfl) rfl rfl ⟨(blk_cell BK149.out 0).trans rfl, (blk_cell BK149.out 1).trans rfl, (blk_cell BK149.out 2).trans rfl, (blk_cell BK149.out 3).trans rfl, (blk_cell BK153.out 0).trans rfl, (blk_cell BK153.out 1).trans rfl, (blk_cell BK153.out 2).trans rfl, (blk_cell BK153.out 3).trans rfl, (cB_ HB.out hw154_0 :), (cB_ HB.out hw156_0 :)⟩ (fun hHeld => ?_); refine with_tabW spec_MachineOk.tab8 spec_MachineOk.bits8 (fun HT_ HW_ => ?_)
               generalize w38.drew = w39 at BK149 BK153 HB HR154_0 HR156_0 hx154_0 hx156_0 hHeld ⊢
               refine pU_ 0 42 (mk_ 40 1) ?_
               refine pU_ 2 44 (mk_ 40 5) ?_
               refine tK10_ 1 43 (mk_ 40 7) ?_
               refine pU_ 3 45 (mk_ 40 15) ?_
               refine tK10_ 4 46 (mk_ 40 31) ?_
               refine oN_ 5 47 (mk_ 40 63) (fun K hK => ?_)
               refine gO_ Try.func132 #[.slice A154_0 (rd_L4 l0_0 x4_2).length c154_0] ?_
               with_reducible refine (spec_CodeOk.calls k2 _ _ (rd_L4 l0_0 x4_2) true _ ?side1 ?side2 A26.out).mono ?_
               (case side1 => exact cS_ (Kd.C_below HR154_0.out HB.out))
               (case side2 => exact HC154_0.out)
               rintro e w40 ⟨rfl, hb⟩
               refine ⟨_, rfl, ?_⟩
               replace BK149 := aM_ (nB_ BK149.out hb)
               replace BK153 := aM_ (nB_ BK153.out hb)
               replace HB := aM_ (sT_ HB.out hb)
               (try clear hb)
               (try clear hb2)
               (try clear hk)
               (try clear hi)
               refine kO_ hK (some 47) ⟨(blk_cell BK149.out 0).trans rfl, (blk_cell BK149.out 1).trans rfl, (blk_cell BK149.out 2).trans rfl, (blk_cell BK149.out 3).trans rfl, (blk_cell BK153.out 0).trans rfl, (blk_cell BK153.out 1).trans rfl, (blk_cell BK153.out 2).trans rfl, (blk_cell BK153.out 3).trans rfl, (cB_ HB.out hw154_0 :), (cB_ HB.out hw156_0 :)⟩ (fun hHeld => ?_)
               clear hK K
               refine pU_ 6 48 (mk_ 40 127) ?_
               refine pU_ 7 49 (mk_ 40 255) ?_
               refine pU_ 8 50 (mk_ 40 511) ?_
               refine tK10_ 9 51 (mk_ 40 1023) ?_
               refine pU_ 10 52 (mk_ 40 2047) ?_
               refine pU_ 11 53 (mk_ 40 4095) ?_
               refine pU_ 12 54 (mk_ 40 8191) ?_
               refine pU_ 13 55 (mk_ 40 16383) ?_
               refine pU_ 14 56 (mk_ 40 32767) ?_
               refine pU_ 16 58 (mk_ 40 98303) ?_
               refine pU_ 18 60 (mk_ 40 360447) ?_
               refine tK10_ 15 57 (mk_ 40 393215) ?_
               refine tK10_ 17 59 (mk_ 40 524287) ?_
               refine pU_ 19 61 (mk_ 40 1048575) ?_
               refine tK10_ 20 62 (mk_ 40 2097151) ?_
               refine pU_ 21 63 (mk_ 40 4194303) ?_
               refine pU_ 22 64 (mk_ 40 8388607) ?_
               refine oN_ 23 65 (mk_ 40 16777215) (fun K hK => ?_)
               refine gO_ Try.func111 #[.int .i64 ((rd_T123 l0_1 x4_2).f0), .int .i64 0, .int .i64 (wrap64 (((rd_L4 l0_0 x4_2).length : Int) - 1))] ?_
               with_reducible refine (spec_l1In.calls ((rd_T123 l0_1 x4_2).f0) 0 (wrap64 (((rd_L4 l0_0 x4_2).length : Int) - 1)) true _ A29.out).mono ?_
               rintro e w' ⟨rfl, ⟨nd, rfl⟩⟩
               refine ⟨_, rfl, ?_⟩
               refine kO_ hK (some 65) ⟨(blk_cell BK149.out 0).trans rfl, (blk_cell BK149.out 1).trans rfl, (blk_cell BK149.out 2).trans rfl, (blk_cell BK149.out 3).trans rfl, (blk_cell BK153.out 0).trans rfl, (blk_cell BK153.out 1).trans rfl, (blk_cell BK153.out 2).trans rfl, (blk_cell BK153.out 3).trans rfl, (cB_ HB.out hw154_0 :), (cB_ HB.out hw156_0 :)⟩ (fun hHeld => ?_)
               clear hK K
               refine pU_ 24 66 (mk_ 40 33554431) ?_
               refine pU_ 25 67 (mk_ 40 67108863) ?_
               refine pU_ 26 68 (mk_ 40 134217727) ?_
               refine pU_ 27 69 (mk_ 40 268435455) ?_
               refine tK10_ 28 70 (mk_ 40 536870911) ?_
               refine oN_ 29 71 (mk_ 40 1073741823) (fun K hK => ?_)
               refine gO_ Try.func111 #[.int .i64 ((rd_T123 l0_1 x4_2).f3), .int .i64 0, .int .i64 2] ?_
               with_reducible refine (spec_l1In.calls ((rd_T123 l0_1 x4_2).f3) 0 2 false _ A31.out).mono ?_
               rintro e w' ⟨rfl, ⟨nd, rfl⟩⟩
               refine ⟨_, rfl, ?_⟩
               refine kO_ hK (some 71) ⟨(blk_cell BK149.out 0).trans rfl, (blk_cell BK149.out 1).trans rfl, (blk_cell BK149.out 2).trans rfl, (blk_cell BK149.out 3).trans rfl, (blk_cell BK153.out 0).trans rfl, (blk_cell BK153.out 1).trans rfl, (blk_cell BK153.out 2).trans rfl, (blk_cell BK153.out 3).trans rfl, (cB_ HB.out hw154_0 :), (cB_ HB.out hw156_0 :)⟩ (fun hHeld => ?_)
               clear hK K
               refine pU_ 30 72 (mk_ 40 2147483647) ?_
               refine pU_ 31 73 (mk_ 40 4294967295) ?_
               refine pU_ 32 74 (mk_ 40 8589934591) ?_
               refine pX_ 33 75 (mk_ 40 17179869183) ?_
               refine pX_ 34 76 (mk_ 40 34359738367) ?_
               refine pX_ 35 77 (mk_ 40 68719476735) ?_
               refine pX_ 36 78 (mk_ 40 137438953471) ?_
               refine pX_ 37 79 (mk_ 40 274877906943) ?_
               refine pX_ 38 80 (mk_ 40 549755813887) ?_
               refine pU_ 39 81 (mk_ 40 1099511627775) ?_
               refine done_ (done_of HT_.out (by kernel_rfl)) ?_
               try go_wp2
               go_meet
               case rel => exact ⟨_, (true), (by first | rfl | (simp; done) | (simp [*]; done)), H', ⟨by have := HJ1.out; have := HK2.out; first | omega | exact Nat.le_refl _⟩, ⟨rW_ BK149.out⟩, ⟨rW_ BK153.out⟩, ⟨gW_ HB.out⟩⟩
             ·replace c30 := Bool.eq_false_iff.mpr c30
              subst c30
              have H1 : (spec_MachineOk.j2 k2 (l0_0.length : Int) x4_2 true l0_0 l0_1 l0_2 l0_3) = some r := by rw [if_neg (show ¬ (false = true) by decide)] at H; exact H
              clear H
              have H := H1
              clear H1
              have H' := aM_ H
              clear H
              try go_wp2
              have n0 : Aside0 (((((w22.setCell ⟨gb153, 0, none⟩ (.int .i64 ((rd_T123 l0_1 x4_2).f0))).setCell ⟨gb153, 1, none⟩ (.slice A152_1 ((rd_T123 l0_1 x4_2).f1).length c152_1)).setCell ⟨gb153, 2, none⟩ (.slice A152_2 ((rd_T123 l0_1 x4_2).f2).length c152_2)).setCell ⟨gb153, 3, none⟩ (.int .i64 ((rd_T123 l0_1 x4_2).f3))).heap[gb149]? = some (.cells #[.slice A0_0 l0_0.length c0_0, .slice (some ad152) l0_1.length c0_1, .slice A0_2 l0_2.length c0_2, .slice A0_3 l0_3.length c0_3] 59 (0, 0))) := ⟨rWf_ BK149.out⟩
              have n1 : Aside0 (((((w22.setCell ⟨gb153, 0, none⟩ (.int .i64 ((rd_T123 l0_1 x4_2).f0))).setCell ⟨gb153, 1, none⟩ (.slice A152_1 ((rd_T123 l0_1 x4_2).f1).length c152_1)).setCell ⟨gb153, 2, none⟩ (.slice A152_2 ((rd_T123 l0_1 x4_2).f2).length c152_2)).setCell ⟨gb153, 3, none⟩ (.int .i64 ((rd_T123 l0_1 x4_2).f3))).heap[gb153]? = some (.cells #[.int .i64 ((rd_T123 l0_1 x4_2).f0), .slice A152_1 ((rd_T123 l0_1 x4_2).f1).length c152_1, .slice A152_2 ((rd_T123 l0_1 x4_2).f2).length c152_2, .int .i64 ((rd_T123 l0_1 x4_2).f3)] 123 (0, 0))) := ⟨by (with_reducible repeat (first | refine bN_ ?_ _ | refine bD_ ?_ | refine bA_ ?_ _)); refine blk_put (cs := #[.int .i64 ((rd_T123 l0_1 x4_2).f0), .slice A152_1 ((rd_T123 l0_1 x4_2).f1).length c152_1, .slice A152_2 ((rd_T123 l0_1 x4_2).f2).length c152_2, .int .i64 0]) ?_ 3 _ rfl; refine blk_put (cs := #[.int .i64 ((rd_T123 l0_1 x4_2).f0), .slice A152_1 ((rd_T123 l0_1 x4_2).f1).length c152_1, .slice none 0 0, .int .i64 0]) ?_ 2 _ rfl; refine blk_put (cs := #[.int .i64 ((rd_T123 l0_1 x4_2).f0), .slice none 0 0, .slice none 0 0, .int .i64 0]) ?_ 1 _ rfl; refine blk_put (cs := #[.int .i64 0, .slice none 0 0, .slice none 0 0, .int .i64 0]) ?_ 0 _ rfl; (with_reducible repeat (first | refine bN_ ?_ _ | refine bD_ ?_ | refine bA_ ?_ _)); exact BK153.out⟩
              have n2 : Aside0 (Below w.heap.size w ((((w22.setCell ⟨gb153, 0, none⟩ (.int .i64 ((rd_T123 l0_1 x4_2).f0))).setCell ⟨gb153, 1, none⟩ (.slice A152_1 ((rd_T123 l0_1 x4_2).f1).length c152_1)).setCell ⟨gb153, 2, none⟩ (.slice A152_2 ((rd_T123 l0_1 x4_2).f2).length c152_2)).setCell ⟨gb153, 3, none⟩ (.int .i64 ((rd_T123 l0_1 x4_2).f3)))) := ⟨gW_ HB.out⟩
              (try clear BK149)
              (try clear BK153)
              (try clear HB)
              generalize ((((w22.setCell ⟨gb153, 0, none⟩ (.int .i64 ((rd_T123 l0_1 x4_2).f0))).setCell ⟨gb153, 1, none⟩ (.slice A152_1 ((rd_T123 l0_1 x4_2).f1).length c152_1)).setCell ⟨gb153, 2, none⟩ (.slice A152_2 ((rd_T123 l0_1 x4_2).f2).length c152_2)).setCell ⟨gb153, 3, none⟩ (.int .i64 ((rd_T123 l0_1 x4_2).f3))) = w41 at n0 n1 n2 ⊢
              have BK149 := n0
              have BK153 := n1
              have HB := n2
              clear n0 n1 n2
              replace BK149 := aM_ (blk_drew BK149.out)
              replace BK153 := aM_ (blk_drew BK153.out)
              replace HB := aM_ (below_drew1 HB.out)
              have p154 : 0 ≤ (x4_2 : Int) := of_decide_eq_true (by first | (with_reducible assumption) | assumption)
              have q154 : x4_2 < (l0_0.length : Int) := of_decide_eq_true (by first | (with_reducible assumption) | assumption)
              obtain ⟨ad154, A154_0, c154_0, e154, hx154_0, hl154_0, hi154_0⟩ := at_L4 HR0_0.out x4_2 p154 q154
              have hw154_0 := hx154_0
              cases e154
              replace hx154_0 := cB_ HB.out hx154_0
              have HR154_0 := aM_ hi154_0
              have HC154_0 := aM_ hl154_0
              clear hi154_0 hl154_0
              replace p154 := eq_true p154
              replace q154 := eq_true q154
              have p156 : 0 ≤ (x4_2 : Int) := of_decide_eq_true (by first | (with_reducible assumption) | assumption)
              have q156 : x4_2 < (l0_0.length : Int) := of_decide_eq_true (by first | (with_reducible assumption) | assumption)
              obtain ⟨ad156, A156_0, c156_0, e156, hx156_0, hl156_0, hi156_0⟩ := at_L4 HR0_0.out x4_2 p156 q156
              have hw156_0 := hx156_0
              obtain rfl : ad154 = ad156 := (by injection e156)
              replace hx156_0 := cB_ HB.out hx156_0
              have HR156_0 := aM_ hi156_0
              have HC156_0 := aM_ hl156_0
              clear hi156_0 hl156_0
              replace p156 := eq_true p156
              replace q156 := eq_true q156
              refine start_ (n := 40) (S := fun w' => w'.cell? ⟨gb149, 0, none⟩ = some (.slice (some ad154) l0_0.length c0_0) ∧ w'.cell? ⟨gb149, 1, none⟩ = some (.slice (some ad152) l0_1.length c0_1) ∧ w'.cell? ⟨gb149, 2, none⟩ = some (.slice A0_2 l0_2.length c0_2) ∧ w'.cell? ⟨gb149, 3, none⟩ = some (.slice A0_3 l0_3.length c0_3) ∧ w'.cell? ⟨gb153, 0, none⟩ = some (.int .i64 ((rd_T123 l0_1 x4_2).f0)) ∧ w'.cell? ⟨gb153, 1, none⟩ = some (.slice A152_1 ((rd_T123 l0_1 x4_2).f1).length c152_1) ∧ w'.cell? ⟨gb153, 2, none⟩ = some (.slice A152_2 ((rd_T123 l0_1 x4_2).f2).length c152_2) ∧ w'.cell? ⟨gb153, 3, none⟩ = some (.int .i64 ((rd_T123 l0_1 x4_2).f3)) ∧ w'.cell? (ad154.add (x4_2).toNat) = some (.slice A154_0 (rd_L4 l0_0 x4_2).length c154_0) ∧ w'.cell? (ad154.add (x4_2).toNat) = some (.slice A156_0 (rd_L4 l0_0 x4_2).length c156_0)) (ds := []) (mk_ 40 0) (by kernel_rfl) rfl rfl ⟨(blk_cell BK149.out 0).trans rfl, (blk_cell BK149.out 1).trans rfl, (blk_cell BK149.out 2).trans rfl, (blk_cell BK149.out 3).trans rfl, (blk_cell BK153.out 0).trans rfl, (blk_cell BK153.out 1).trans rfl, (blk_cell BK153.out 2).trans rfl, (blk_cell BK153.out 3).trans rfl, (cB_ HB.out hw154_0 :), (cB_ HB.out hw156_0 :)⟩ (fun hHeld => ?_); refine with_tabW spec_MachineOk.tab8 spec_MachineOk.bits8 (fun HT_ HW_ => ?_)
              generalize w41.drew = w42 at BK149 BK153 HB HR154_0 HR156_0 hx154_0 hx156_0 hHeld ⊢
              refine pU_ 0 42 (mk_ 40 1) ?_
              refine pU_ 2 44 (mk_ 40 5) ?_
              refine tK10_ 1 43 (mk_ 40 7) ?_
              refine pU_ 3 45 (mk_ 40 15) ?_
              refine tK10_ 4 46 (mk_ 40 31) ?_
              refine oN_ 5 47 (mk_ 40 63) (fun K hK => ?_)
              refine gO_ Try.func132 #[.slice A154_0 (rd_L4 l0_0 x4_2).length c154_0] ?_
              with_reducible refine (spec_CodeOk.calls k2 _ _ (rd_L4 l0_0 x4_2) true _ ?side1 ?side2 A26.out).mono ?_
              (case side1 => exact cS_ (Kd.C_below HR154_0.out HB.out))
              (case side2 => exact HC154_0.out)
              rintro e w43 ⟨rfl, hb⟩
              refine ⟨_, rfl, ?_⟩
              replace BK149 := aM_ (nB_ BK149.out hb)
              replace BK153 := aM_ (nB_ BK153.out hb)
              replace HB := aM_ (sT_ HB.out hb)
              (try clear hb)
              (try clear hb2)
              (try clear hk)
              (try clear hi)
              refine kO_ hK (some 47) ⟨(blk_cell BK149.out 0).trans rfl, (blk_cell BK149.out 1).trans rfl, (blk_cell BK149.out 2).trans rfl, (blk_cell BK149.out 3).trans rfl, (blk_cell BK153.out 0).trans rfl, (blk_cell BK153.out 1).trans rfl, (blk_cell BK153.out 2).trans rfl, (blk_cell BK153.out 3).trans rfl, (cB_ HB.out hw154_0 :), (cB_ HB.out hw156_0 :)⟩ (fun hHeld => ?_)
              clear hK K
              refine pU_ 6 48 (mk_ 40 127) ?_
              refine pU_ 7 49 (mk_ 40 255) ?_
              refine pU_ 8 50 (mk_ 40 511) ?_
              refine tK10_ 9 51 (mk_ 40 1023) ?_
              refine pU_ 10 52 (mk_ 40 2047) ?_
              refine pU_ 11 53 (mk_ 40 4095) ?_
              refine pU_ 12 54 (mk_ 40 8191) ?_
              refine pU_ 13 55 (mk_ 40 16383) ?_
              refine pU_ 14 56 (mk_ 40 32767) ?_
              refine pU_ 16 58 (mk_ 40 98303) ?_
              refine pU_ 18 60 (mk_ 40 360447) ?_
              refine tK10_ 15 57 (mk_ 40 393215) ?_
              refine tK10_ 17 59 (mk_ 40 524287) ?_
              refine pU_ 19 61 (mk_ 40 1048575) ?_
              refine tK10_ 20 62 (mk_ 40 2097151) ?_
              refine pU_ 21 63 (mk_ 40 4194303) ?_
              refine pU_ 22 64 (mk_ 40 8388607) ?_
              refine oN_ 23 65 (mk_ 40 16777215) (fun K hK => ?_)
              refine gO_ Try.func111 #[.int .i64 ((rd_T123 l0_1 x4_2).f0), .int .i64 0, .int .i64 (wrap64 (((rd_L4 l0_0 x4_2).length : Int) - 1))] ?_
              with_reducible refine (spec_l1In.calls ((rd_T123 l0_1 x4_2).f0) 0 (wrap64 (((rd_L4 l0_0 x4_2).length : Int) - 1)) false _ A29.out).mono ?_
              rintro e w' ⟨rfl, ⟨nd, rfl⟩⟩
              refine ⟨_, rfl, ?_⟩
              refine kO_ hK (some 65) ⟨(blk_cell BK149.out 0).trans rfl, (blk_cell BK149.out 1).trans rfl, (blk_cell BK149.out 2).trans rfl, (blk_cell BK149.out 3).trans rfl, (blk_cell BK153.out 0).trans rfl, (blk_cell BK153.out 1).trans rfl, (blk_cell BK153.out 2).trans rfl, (blk_cell BK153.out 3).trans rfl, (cB_ HB.out hw154_0 :), (cB_ HB.out hw156_0 :)⟩ (fun hHeld => ?_)
              clear hK K
              refine pU_ 24 66 (mk_ 40 33554431) ?_
              refine pU_ 25 67 (mk_ 40 67108863) ?_
              refine pU_ 26 68 (mk_ 40 134217727) ?_
              refine pX_ 27 69 (mk_ 40 268435455) ?_
              refine pX_ 28 70 (mk_ 40 536870911) ?_
              refine pX_ 29 71 (mk_ 40 1073741823) ?_
              refine pX_ 30 72 (mk_ 40 2147483647) ?_
              refine pU_ 31 73 (mk_ 40 4294967295) ?_
              refine pU_ 32 74 (mk_ 40 8589934591) ?_
              refine pX_ 33 75 (mk_ 40 17179869183) ?_
              refine pX_ 34 76 (mk_ 40 34359738367) ?_
              refine pX_ 35 77 (mk_ 40 68719476735) ?_
              refine pX_ 36 78 (mk_ 40 137438953471) ?_
              refine pX_ 37 79 (mk_ 40 274877906943) ?_
              refine pX_ 38 80 (mk_ 40 549755813887) ?_
              refine pU_ 39 81 (mk_ 40 1099511627775) ?_
              refine done_ (done_of HT_.out (by kernel_rfl)) ?_
              try go_wp2
              go_meet
              case rel => exact ⟨_, (true), (by first | rfl | (simp; done) | (simp [*]; done)), H', ⟨by have := HJ1.out; have := HK2.out; first | omega | exact Nat.le_refl _⟩, ⟨rW_ BK149.out⟩, ⟨rW_ BK153.out⟩, ⟨gW_ HB.out⟩⟩
            ·rw [if_neg c28] at H
             have c28b0 : ((((rd_T123 l0_1 x4_2).f1).length : Int) == 8) = false := beq_eq_false_iff_ne.mpr c28
             have c28b1 : ((((rd_T123 l0_1 x4_2).f1).length : Int) != 8) = true := bne_iff_ne.mpr c28
             have H' := aM_ H
             clear H
             try go_wp2
             have n0 : Aside0 (((((w22.setCell ⟨gb153, 0, none⟩ (.int .i64 ((rd_T123 l0_1 x4_2).f0))).setCell ⟨gb153, 1, none⟩ (.slice A152_1 ((rd_T123 l0_1 x4_2).f1).length c152_1)).setCell ⟨gb153, 2, none⟩ (.slice A152_2 ((rd_T123 l0_1 x4_2).f2).length c152_2)).setCell ⟨gb153, 3, none⟩ (.int .i64 ((rd_T123 l0_1 x4_2).f3))).heap[gb149]? = some (.cells #[.slice A0_0 l0_0.length c0_0, .slice (some ad152) l0_1.length c0_1, .slice A0_2 l0_2.length c0_2, .slice A0_3 l0_3.length c0_3] 59 (0, 0))) := ⟨rWf_ BK149.out⟩
             have n1 : Aside0 (((((w22.setCell ⟨gb153, 0, none⟩ (.int .i64 ((rd_T123 l0_1 x4_2).f0))).setCell ⟨gb153, 1, none⟩ (.slice A152_1 ((rd_T123 l0_1 x4_2).f1).length c152_1)).setCell ⟨gb153, 2, none⟩ (.slice A152_2 ((rd_T123 l0_1 x4_2).f2).length c152_2)).setCell ⟨gb153, 3, none⟩ (.int .i64 ((rd_T123 l0_1 x4_2).f3))).heap[gb153]? = some (.cells #[.int .i64 ((rd_T123 l0_1 x4_2).f0), .slice A152_1 ((rd_T123 l0_1 x4_2).f1).length c152_1, .slice A152_2 ((rd_T123 l0_1 x4_2).f2).length c152_2, .int .i64 ((rd_T123 l0_1 x4_2).f3)] 123 (0, 0))) := ⟨by (with_reducible repeat (first | refine bN_ ?_ _ | refine bD_ ?_ | refine bA_ ?_ _)); refine blk_put (cs := #[.int .i64 ((rd_T123 l0_1 x4_2).f0), .slice A152_1 ((rd_T123 l0_1 x4_2).f1).length c152_1, .slice A152_2 ((rd_T123 l0_1 x4_2).f2).length c152_2, .int .i64 0]) ?_ 3 _ rfl; refine blk_put (cs := #[.int .i64 ((rd_T123 l0_1 x4_2).f0), .slice A152_1 ((rd_T123 l0_1 x4_2).f1).length c152_1, .slice none 0 0, .int .i64 0]) ?_ 2 _ rfl; refine blk_put (cs := #[.int .i64 ((rd_T123 l0_1 x4_2).f0), .slice none 0 0, .slice none 0 0, .int .i64 0]) ?_ 1 _ rfl; refine blk_put (cs := #[.int .i64 0, .slice none 0 0, .slice none 0 0, .int .i64 0]) ?_ 0 _ rfl; (with_reducible repeat (first | refine bN_ ?_ _ | refine bD_ ?_ | refine bA_ ?_ _)); exact BK153.out⟩
             have n2 : Aside0 (Below w.heap.size w ((((w22.setCell ⟨gb153, 0, none⟩ (.int .i64 ((rd_T123 l0_1 x4_2).f0))).setCell ⟨gb153, 1, none⟩ (.slice A152_1 ((rd_T123 l0_1 x4_2).f1).length c152_1)).setCell ⟨gb153, 2, none⟩ (.slice A152_2 ((rd_T123 l0_1 x4_2).f2).length c152_2)).setCell ⟨gb153, 3, none⟩ (.int .i64 ((rd_T123 l0_1 x4_2).f3)))) := ⟨gW_ HB.out⟩
             (try clear BK149)
             (try clear BK153)
             (try clear HB)
             generalize ((((w22.setCell ⟨gb153, 0, none⟩ (.int .i64 ((rd_T123 l0_1 x4_2).f0))).setCell ⟨gb153, 1, none⟩ (.slice A152_1 ((rd_T123 l0_1 x4_2).f1).length c152_1)).setCell ⟨gb153, 2, none⟩ (.slice A152_2 ((rd_T123 l0_1 x4_2).f2).length c152_2)).setCell ⟨gb153, 3, none⟩ (.int .i64 ((rd_T123 l0_1 x4_2).f3))) = w44 at n0 n1 n2 ⊢
             have BK149 := n0
             have BK153 := n1
             have HB := n2
             clear n0 n1 n2
             replace BK149 := aM_ (blk_drew BK149.out)
             replace BK153 := aM_ (blk_drew BK153.out)
             replace HB := aM_ (below_drew1 HB.out)
             have p154 : 0 ≤ (x4_2 : Int) := of_decide_eq_true (by first | (with_reducible assumption) | assumption)
             have q154 : x4_2 < (l0_0.length : Int) := of_decide_eq_true (by first | (with_reducible assumption) | assumption)
             obtain ⟨ad154, A154_0, c154_0, e154, hx154_0, hl154_0, hi154_0⟩ := at_L4 HR0_0.out x4_2 p154 q154
             have hw154_0 := hx154_0
             cases e154
             replace hx154_0 := cB_ HB.out hx154_0
             have HR154_0 := aM_ hi154_0
             have HC154_0 := aM_ hl154_0
             clear hi154_0 hl154_0
             replace p154 := eq_true p154
             replace q154 := eq_true q154
             refine start_ (n := 40) (S := fun w' => w'.cell? ⟨gb149, 0, none⟩ = some (.slice (some ad154) l0_0.length c0_0) ∧ w'.cell? ⟨gb149, 1, none⟩ = some (.slice (some ad152) l0_1.length c0_1) ∧ w'.cell? ⟨gb149, 2, none⟩ = some (.slice A0_2 l0_2.length c0_2) ∧ w'.cell? ⟨gb149, 3, none⟩ = some (.slice A0_3 l0_3.length c0_3) ∧ w'.cell? ⟨gb153, 0, none⟩ = some (.int .i64 ((rd_T123 l0_1 x4_2).f0)) ∧ w'.cell? ⟨gb153, 1, none⟩ = some (.slice A152_1 ((rd_T123 l0_1 x4_2).f1).length c152_1) ∧ w'.cell? ⟨gb153, 2, none⟩ = some (.slice A152_2 ((rd_T123 l0_1 x4_2).f2).length c152_2) ∧ w'.cell? ⟨gb153, 3, none⟩ = some (.int .i64 ((rd_T123 l0_1 x4_2).f3)) ∧ w'.cell? (ad154.add (x4_2).toNat) = some (.slice A154_0 (rd_L4 l0_0 x4_2).length c154_0)) (ds := []) (mk_ 40 0) (by kernel_rfl) rfl rfl ⟨(blk_cell BK149.out 0).trans rfl, (blk_cell BK149.out 1).trans rfl, (blk_cell BK149.out 2).trans rfl, (blk_cell BK149.out 3).trans rfl, (blk_cell BK153.out 0).trans rfl, (blk_cell BK153.out 1).trans rfl, (blk_cell BK153.out 2).trans rfl, (blk_cell BK153.out 3).trans rfl, (cB_ HB.out hw154_0 :)⟩ (fun hHeld => ?_); refine with_tabW spec_MachineOk.tab8 spec_MachineOk.bits8 (fun HT_ HW_ => ?_)
             generalize w44.drew = w45 at BK149 BK153 HB HR154_0 hx154_0 hHeld ⊢
             refine pU_ 0 42 (mk_ 40 1) ?_
             refine pU_ 2 44 (mk_ 40 5) ?_
             refine tK9_ 1 43 (mk_ 40 7) ?_
             refine pU_ 3 45 (mk_ 40 15) ?_
             refine tK9_ 4 46 (mk_ 40 31) ?_
             refine oN_ 5 47 (mk_ 40 63) (fun K hK => ?_)
             refine gO_ Try.func132 #[.slice A154_0 (rd_L4 l0_0 x4_2).length c154_0] ?_
             with_reducible refine (spec_CodeOk.calls k2 _ _ (rd_L4 l0_0 x4_2) true _ ?side1 ?side2 A26.out).mono ?_
             (case side1 => exact cS_ (Kd.C_below HR154_0.out HB.out))
             (case side2 => exact HC154_0.out)
             rintro e w46 ⟨rfl, hb⟩
             refine ⟨_, rfl, ?_⟩
             replace BK149 := aM_ (nB_ BK149.out hb)
             replace BK153 := aM_ (nB_ BK153.out hb)
             replace HB := aM_ (sT_ HB.out hb)
             (try clear hb)
             (try clear hb2)
             (try clear hk)
             (try clear hi)
             refine kO_ hK (some 47) ⟨(blk_cell BK149.out 0).trans rfl, (blk_cell BK149.out 1).trans rfl, (blk_cell BK149.out 2).trans rfl, (blk_cell BK149.out 3).trans rfl, (blk_cell BK153.out 0).trans rfl, (blk_cell BK153.out 1).trans rfl, (blk_cell BK153.out 2).trans rfl, (blk_cell BK153.out 3).trans rfl, (cB_ HB.out hw154_0 :)⟩ (fun hHeld => ?_)
             clear hK K
             refine pU_ 6 48 (mk_ 40 127) ?_
             refine pU_ 7 49 (mk_ 40 255) ?_
             refine pU_ 8 50 (mk_ 40 511) ?_
             refine tK9_ 9 51 (mk_ 40 1023) ?_
             refine pU_ 10 52 (mk_ 40 2047) ?_
             refine pU_ 11 53 (mk_ 40 4095) ?_
             refine pU_ 12 54 (mk_ 40 8191) ?_
             refine pU_ 13 55 (mk_ 40 16383) ?_
             refine pX_ 14 56 (mk_ 40 32767) ?_
             refine pX_ 15 57 (mk_ 40 65535) ?_
             refine pX_ 16 58 (mk_ 40 131071) ?_
             refine pX_ 17 59 (mk_ 40 262143) ?_
             refine pX_ 18 60 (mk_ 40 524287) ?_
             refine pX_ 19 61 (mk_ 40 1048575) ?_
             refine pX_ 20 62 (mk_ 40 2097151) ?_
             refine pX_ 21 63 (mk_ 40 4194303) ?_
             refine pX_ 22 64 (mk_ 40 8388607) ?_
             refine pX_ 23 65 (mk_ 40 16777215) ?_
             refine pX_ 24 66 (mk_ 40 33554431) ?_
             refine pU_ 25 67 (mk_ 40 67108863) ?_
             refine pU_ 26 68 (mk_ 40 134217727) ?_
             refine pX_ 27 69 (mk_ 40 268435455) ?_
             refine pX_ 28 70 (mk_ 40 536870911) ?_
             refine pX_ 29 71 (mk_ 40 1073741823) ?_
             refine pX_ 30 72 (mk_ 40 2147483647) ?_
             refine pU_ 31 73 (mk_ 40 4294967295) ?_
             refine pU_ 32 74 (mk_ 40 8589934591) ?_
             refine pX_ 33 75 (mk_ 40 17179869183) ?_
             refine pX_ 34 76 (mk_ 40 34359738367) ?_
             refine pX_ 35 77 (mk_ 40 68719476735) ?_
             refine pX_ 36 78 (mk_ 40 137438953471) ?_
             refine pX_ 37 79 (mk_ 40 274877906943) ?_
             refine pX_ 38 80 (mk_ 40 549755813887) ?_
             refine pU_ 39 81 (mk_ 40 1099511627775) ?_
             refine done_ (done_of HT_.out (by kernel_rfl)) ?_
             try go_wp2
             go_meet
             case rel => exact ⟨_, (true), (by first | rfl | (simp; done) | (simp [*]; done)), H', ⟨by have := HJ1.out; have := HK2.out; first | omega | exact Nat.le_refl _⟩, ⟨rW_ BK149.out⟩, ⟨rW_ BK153.out⟩, ⟨gW_ HB.out⟩⟩
           ·replace c27 := Bool.eq_false_iff.mpr c27
            subst c27
            have H1 : (spec_MachineOk.j2 k2 (l0_0.length : Int) x4_2 true l0_0 l0_1 l0_2 l0_3) = some r := by rw [if_neg (show ¬ (false = true) by decide)] at H; exact H
            clear H
            have H := H1
            clear H1
            have H' := aM_ H
            clear H
            try go_wp2
            have n0 : Aside0 (((((w22.setCell ⟨gb153, 0, none⟩ (.int .i64 ((rd_T123 l0_1 x4_2).f0))).setCell ⟨gb153, 1, none⟩ (.slice A152_1 ((rd_T123 l0_1 x4_2).f1).length c152_1)).setCell ⟨gb153, 2, none⟩ (.slice A152_2 ((rd_T123 l0_1 x4_2).f2).length c152_2)).setCell ⟨gb153, 3, none⟩ (.int .i64 ((rd_T123 l0_1 x4_2).f3))).heap[gb149]? = some (.cells #[.slice A0_0 l0_0.length c0_0, .slice (some ad152) l0_1.length c0_1, .slice A0_2 l0_2.length c0_2, .slice A0_3 l0_3.length c0_3] 59 (0, 0))) := ⟨rWf_ BK149.out⟩
            have n1 : Aside0 (((((w22.setCell ⟨gb153, 0, none⟩ (.int .i64 ((rd_T123 l0_1 x4_2).f0))).setCell ⟨gb153, 1, none⟩ (.slice A152_1 ((rd_T123 l0_1 x4_2).f1).length c152_1)).setCell ⟨gb153, 2, none⟩ (.slice A152_2 ((rd_T123 l0_1 x4_2).f2).length c152_2)).setCell ⟨gb153, 3, none⟩ (.int .i64 ((rd_T123 l0_1 x4_2).f3))).heap[gb153]? = some (.cells #[.int .i64 ((rd_T123 l0_1 x4_2).f0), .slice A152_1 ((rd_T123 l0_1 x4_2).f1).length c152_1, .slice A152_2 ((rd_T123 l0_1 x4_2).f2).length c152_2, .int .i64 ((rd_T123 l0_1 x4_2).f3)] 123 (0, 0))) := ⟨by (with_reducible repeat (first | refine bN_ ?_ _ | refine bD_ ?_ | refine bA_ ?_ _)); refine blk_put (cs := #[.int .i64 ((rd_T123 l0_1 x4_2).f0), .slice A152_1 ((rd_T123 l0_1 x4_2).f1).length c152_1, .slice A152_2 ((rd_T123 l0_1 x4_2).f2).length c152_2, .int .i64 0]) ?_ 3 _ rfl; refine blk_put (cs := #[.int .i64 ((rd_T123 l0_1 x4_2).f0), .slice A152_1 ((rd_T123 l0_1 x4_2).f1).length c152_1, .slice none 0 0, .int .i64 0]) ?_ 2 _ rfl; refine blk_put (cs := #[.int .i64 ((rd_T123 l0_1 x4_2).f0), .slice none 0 0, .slice none 0 0, .int .i64 0]) ?_ 1 _ rfl; refine blk_put (cs := #[.int .i64 0, .slice none 0 0, .slice none 0 0, .int .i64 0]) ?_ 0 _ rfl; (with_reducible repeat (first | refine bN_ ?_ _ | refine bD_ ?_ | refine bA_ ?_ _)); exact BK153.out⟩
            have n2 : Aside0 (Below w.heap.size w ((((w22.setCell ⟨gb153, 0, none⟩ (.int .i64 ((rd_T123 l0_1 x4_2).f0))).setCell ⟨gb153, 1, none⟩ (.slice A152_1 ((rd_T123 l0_1 x4_2).f1).length c152_1)).setCell ⟨gb153, 2, none⟩ (.slice A152_2 ((rd_T123 l0_1 x4_2).f2).length c152_2)).setCell ⟨gb153, 3, none⟩ (.int .i64 ((rd_T123 l0_1 x4_2).f3)))) := ⟨gW_ HB.out⟩
            (try clear BK149)
            (try clear BK153)
            (try clear HB)
            generalize ((((w22.setCell ⟨gb153, 0, none⟩ (.int .i64 ((rd_T123 l0_1 x4_2).f0))).setCell ⟨gb153, 1, none⟩ (.slice A152_1 ((rd_T123 l0_1 x4_2).f1).length c152_1)).setCell ⟨gb153, 2, none⟩ (.slice A152_2 ((rd_T123 l0_1 x4_2).f2).length c152_2)).setCell ⟨gb153, 3, none⟩ (.int .i64 ((rd_T123 l0_1 x4_2).f3))) = w47 at n0 n1 n2 ⊢
            have BK149 := n0
            have BK153 := n1
            have HB := n2
            clear n0 n1 n2
            replace BK149 := aM_ (blk_drew BK149.out)
            replace BK153 := aM_ (blk_drew BK153.out)
            replace HB := aM_ (below_drew1 HB.out)
            have p154 : 0 ≤ (x4_2 : Int) := of_decide_eq_true (by first | (with_reducible assumption) | assumption)
            have q154 : x4_2 < (l0_0.length : Int) := of_decide_eq_true (by first | (with_reducible assumption) | assumption)
            obtain ⟨ad154, A154_0, c154_0, e154, hx154_0, hl154_0, hi154_0⟩ := at_L4 HR0_0.out x4_2 p154 q154
            have hw154_0 := hx154_0
            cases e154
            replace hx154_0 := cB_ HB.out hx154_0
            have HR154_0 := aM_ hi154_0
            have HC154_0 := aM_ hl154_0
            clear hi154_0 hl154_0
            replace p154 := eq_true p154
            replace q154 := eq_true q154
            refine start_ (n := 40) (S := fun w' => w'.cell? ⟨gb149, 0, none⟩ = some (.slice (some ad154) l0_0.length c0_0) ∧ w'.cell? ⟨gb149, 1, none⟩ = some (.slice (some ad152) l0_1.length c0_1) ∧ w'.cell? ⟨gb149, 2, none⟩ = some (.slice A0_2 l0_2.length c0_2) ∧ w'.cell? ⟨gb149, 3, none⟩ = some (.slice A0_3 l0_3.length c0_3) ∧ w'.cell? (ad154.add (x4_2).toNat) = some (.slice A154_0 (rd_L4 l0_0 x4_2).length c154_0)) (ds := []) (mk_ 40 0) (by kernel_rfl) rfl rfl ⟨(blk_cell BK149.out 0).trans rfl, (blk_cell BK149.out 1).trans rfl, (blk_cell BK149.out 2).trans rfl, (blk_cell BK149.out 3).trans rfl, (cB_ HB.out hw154_0 :)⟩ (fun hHeld => ?_); refine with_tabW spec_MachineOk.tab8 spec_MachineOk.bits8 (fun HT_ HW_ => ?_)
            generalize w47.drew = w48 at BK149 BK153 HB HR154_0 hx154_0 hHeld ⊢
            refine pU_ 0 42 (mk_ 40 1) ?_
            refine pU_ 2 44 (mk_ 40 5) ?_
            refine tK5_ 1 43 (mk_ 40 7) ?_
            refine pU_ 3 45 (mk_ 40 15) ?_
            refine tK5_ 4 46 (mk_ 40 31) ?_
            refine oN_ 5 47 (mk_ 40 63) (fun K hK => ?_)
            refine gO_ Try.func132 #[.slice A154_0 (rd_L4 l0_0 x4_2).length c154_0] ?_
            with_reducible refine (spec_CodeOk.calls k2 _ _ (rd_L4 l0_0 x4_2) false _ ?side1 ?side2 A26.out).mono ?_
            (case side1 => exact cS_ (Kd.C_below HR154_0.out HB.out))
            (case side2 => exact HC154_0.out)
            rintro e w49 ⟨rfl, hb⟩
            refine ⟨_, rfl, ?_⟩
            replace BK149 := aM_ (nB_ BK149.out hb)
            replace BK153 := aM_ (nB_ BK153.out hb)
            replace HB := aM_ (sT_ HB.out hb)
            (try clear hb)
            (try clear hb2)
            (try clear hk)
            (try clear hi)
            refine kO_ hK (some 47) ⟨(blk_cell BK149.out 0).trans rfl, (blk_cell BK149.out 1).trans rfl, (blk_cell BK149.out 2).trans rfl, (blk_cell BK149.out 3).trans rfl, (cB_ HB.out hw154_0 :)⟩ (fun hHeld => ?_)
            clear hK K
            refine pU_ 6 48 (mk_ 40 127) ?_
            refine pU_ 7 49 (mk_ 40 255) ?_
            refine pX_ 8 50 (mk_ 40 511) ?_
            refine pX_ 9 51 (mk_ 40 1023) ?_
            refine pX_ 10 52 (mk_ 40 2047) ?_
            refine pX_ 11 53 (mk_ 40 4095) ?_
            refine pU_ 12 54 (mk_ 40 8191) ?_
            refine pU_ 13 55 (mk_ 40 16383) ?_
            refine pX_ 14 56 (mk_ 40 32767) ?_
            refine pX_ 15 57 (mk_ 40 65535) ?_
            refine pX_ 16 58 (mk_ 40 131071) ?_
            refine pX_ 17 59 (mk_ 40 262143) ?_
            refine pX_ 18 60 (mk_ 40 524287) ?_
            refine pX_ 19 61 (mk_ 40 1048575) ?_
            refine pX_ 20 62 (mk_ 40 2097151) ?_
            refine pX_ 21 63 (mk_ 40 4194303) ?_
            refine pX_ 22 64 (mk_ 40 8388607) ?_
            refine pX_ 23 65 (mk_ 40 16777215) ?_
            refine pX_ 24 66 (mk_ 40 33554431) ?_
            refine pU_ 25 67 (mk_ 40 67108863) ?_
            refine pU_ 26 68 (mk_ 40 134217727) ?_
            refine pX_ 27 69 (mk_ 40 268435455) ?_
            refine pX_ 28 70 (mk_ 40 536870911) ?_
            refine pX_ 29 71 (mk_ 40 1073741823) ?_
            refine pX_ 30 72 (mk_ 40 2147483647) ?_
            refine pU_ 31 73 (mk_ 40 4294967295) ?_
            refine pU_ 32 74 (mk_ 40 8589934591) ?_
            refine pX_ 33 75 (mk_ 40 17179869183) ?_
            refine pX_ 34 76 (mk_ 40 34359738367) ?_
            refine pX_ 35 77 (mk_ 40 68719476735) ?_
            refine pX_ 36 78 (mk_ 40 137438953471) ?_
            refine pX_ 37 79 (mk_ 40 274877906943) ?_
            refine pX_ 38 80 (mk_ 40 549755813887) ?_
            refine pU_ 39 81 (mk_ 40 1099511627775) ?_
            refine done_ (done_of HT_.out (by kernel_rfl)) ?_
            try go_wp2
            go_meet
            case rel => exact ⟨_, (true), (by first | rfl | (simp; done) | (simp [*]; done)), H', ⟨by have := HJ1.out; have := HK2.out; first | omega | exact Nat.le_refl _⟩, ⟨rW_ BK149.out⟩, ⟨rW_ BK153.out⟩, ⟨gW_ HB.out⟩⟩
          ·rw [if_neg c25] at H
           exact absurd H (by simp)
         case rest =>
          clear HC20
          try clear c1
          try clear p1
          try clear q1
          try clear hx1
          try clear c2
          try clear p2
          try clear c13
          try clear c15
          try clear p15
          try clear q15
          try clear hx15
          try clear c25
          try clear c27
          try clear c28
          try clear c28b0
          try clear c28b1
          try clear hx154_0
          try clear p154
          try clear q154
          obtain ⟨kq, x81_19, rfl, HA, HJ19, BK149, BK153, HB⟩ := hcut
          cases kq with
          | zero => exact absurd HA.out (by simp [spec_MachineOk.j2])
          | succ kj19 =>
           have H := HA.out
           clear HA
           simp only [spec_MachineOk.j2] at H
           by_cases c50 : x81_19 = true
           ·subst c50
            have H1 : (some false) = some r := by rw [if_pos rfl] at H; exact H
            clear H
            have H := H1
            clear H1
            obtain rfl := Option.some.inj H
            go_wp2
            go_ret
            exact fI_ HB.out
           ·replace c50 := Bool.eq_false_iff.mpr c50
            subst c50
            have H1 : (spec_MachineOk.l0 kj19 (l0_0.length : Int) (wrap64 (x4_2 + 1)) l0_0 l0_1 l0_2 l0_3) = some r := by rw [if_neg (show ¬ (false = true) by decide)] at H; exact H
            clear H
            have H := H1
            clear H1
            have H' := aM_ H
            clear H
            go_wp2
            go_roundg kj19
            case measure => have := HJ1.out; have := HK2.out; have := HJ19.out; omega
            case rel => exact ⟨(wrap64 (x4_2 + 1)), (by first | rfl | (simp; done) | (simp [*]; done)), H', ⟨by have := HJ1.out; have := HK2.out; have := HJ19.out; omega⟩, ⟨rW_ BK149.out⟩, ⟨gW_ HB.out⟩⟩
        ·rw [if_neg c19] at H
         exact absurd H (by simp)
       ·rw [if_neg c18] at H
        exact absurd H (by simp)
      ·rw [if_neg c17] at H
       have c17b0 : decide (x4_2 < (l0_0.length : Int)) = false := decide_eq_false c17
       clear c17
       have H' := aM_ H
       clear H
       go_wp2
       go_loopg [6] k2 (fun kq v6 w' => ∃ (x6_3 : Int), v6 = .int .i64 x6_3 ∧ Aside0 (spec_MachineOk.l1 kq (l0_0.length : Int) x6_3 l0_0 l0_1 l0_2 l0_3 = some r) ∧ Aside0 (kq ≤ k2) ∧ Aside0 (w'.heap[gb149]? = some (.cells #[(.slice A0_0 l0_0.length c0_0), (.slice A0_1 l0_1.length c0_1), (.slice A0_2 l0_2.length c0_2), (.slice A0_3 l0_3.length c0_3)] 59 (0, 0))) ∧ Aside0 (Below w.heap.size w w'))
       case atStart => exact ⟨(0), (by first | rfl | (simp; done) | (simp [*]; done)), H', ⟨Nat.le_refl _⟩, ⟨rW_ BK149.out⟩, ⟨gW_ HB.out⟩⟩
       case round =>
        clear H'
        try clear c1
        try clear p1
        try clear q1
        try clear hx1
        try clear c2
        try clear p2
        try clear c5
        try clear p6
        try clear c13
        try clear c15
        try clear p15
        try clear q15
        try clear hx15
        try clear c17
        try clear c17b0
        try clear c18
        try clear c19
        try clear c25
        try clear c27
        try clear c28
        try clear c28b0
        try clear c28b1
        try clear c50
        try clear hx154_0
        try clear p1
        try clear p15
        try clear p154
        try clear p2
        try clear q1
        try clear q15
        try clear q154
        obtain ⟨x6_3, rfl, HA, HK3, BK149, HB⟩ := hrel
        cases gk with
        | zero => exact absurd HA.out (by simp [spec_MachineOk.l1])
        | succ k3 =>
         have H := HA.out
         clear HA
         simp only [spec_MachineOk.l1] at H
         by_cases c51 : x6_3 < (l0_3.length : Int)
         ·rw [if_pos c51] at H
          have c51b0 : decide (x6_3 < (l0_3.length : Int)) = true := decide_eq_true c51
          clear c51
          by_cases c52 : 0 ≤ x6_3
          ·rw [if_pos c52] at H
           have c52b0 : decide (0 ≤ x6_3) = true := decide_eq_true c52
           clear c52
           replace H := Option.bind_eq_some_iff.mp H
           obtain ⟨t161, A530, H⟩ := H
           replace H : (if t161 = true then (spec_MachineOk.l1 k3 (l0_0.length : Int) (wrap64 (x6_3 + 1)) l0_0 l0_1 l0_2 l0_3) else (some false)) = some r := H
           have A53 := aM_ A530
           clear A530
           by_cases c54 : t161 = true
           ·subst c54
            have H1 : (spec_MachineOk.l1 k3 (l0_0.length : Int) (wrap64 (x6_3 + 1)) l0_0 l0_1 l0_2 l0_3) = some r := by rw [if_pos rfl] at H; exact H
            clear H
            have H := H1
            clear H1
            have H' := aM_ H
            clear H
            have z_55 := bR4_ BK149.out
            have p160 : 0 ≤ (x6_3 : Int) := of_decide_eq_true (by first | (with_reducible assumption) | assumption)
            have q160 : x6_3 < (l0_3.length : Int) := of_decide_eq_true (by first | (with_reducible assumption) | assumption)
            obtain ⟨ad160, e160, hx160_0, hx160_1⟩ := at_T35 HR0_3.out x6_3 p160 q160
            cases e160
            replace hx160_0 := cB_ HB.out hx160_0
            replace hx160_1 := cB_ HB.out hx160_1
            replace p160 := eq_true p160
            replace q160 := eq_true q160
            go_wp2_with (first | ((with_reducible refine gate_callee (f := 111) rfl ?_); refine gL_ (some 97) Try.func111 #[.int .i64 ((rd_T35 l0_3 x6_3).f0), .int .i64 0, .int .i64 (wrap64 ((l0_0.length : Int) - 1))] ?_; (with_reducible refine (spec_l1In.calls ((rd_T35 l0_3 x6_3).f0) 0 (wrap64 ((l0_0.length : Int) - 1)) true _ A53.out).mono ?_); rintro e w' ⟨rfl, ⟨nd, rfl⟩⟩; refine ⟨_, rfl, ?_⟩))
            go_roundg k3
            case measure => have := HJ1.out; have := HK2.out; have := HK3.out; omega
            case rel => exact ⟨(wrap64 (x6_3 + 1)), (by first | rfl | (simp; done) | (simp [*]; done)), H', ⟨by have := HJ1.out; have := HK2.out; have := HK3.out; omega⟩, ⟨rW_ BK149.out⟩, ⟨gW_ HB.out⟩⟩
           ·replace c54 := Bool.eq_false_iff.mpr c54
            subst c54
            have H1 : (some false) = some r := by rw [if_neg (show ¬ (false = true) by decide)] at H; exact H
            clear H
            have H := H1
            clear H1
            obtain rfl := Option.some.inj H
            have z_56 := bR4_ BK149.out
            have p160 : 0 ≤ (x6_3 : Int) := of_decide_eq_true (by first | (with_reducible assumption) | assumption)
            have q160 : x6_3 < (l0_3.length : Int) := of_decide_eq_true (by first | (with_reducible assumption) | assumption)
            obtain ⟨ad160, e160, hx160_0, hx160_1⟩ := at_T35 HR0_3.out x6_3 p160 q160
            cases e160
            replace hx160_0 := cB_ HB.out hx160_0
            replace hx160_1 := cB_ HB.out hx160_1
            replace p160 := eq_true p160
            replace q160 := eq_true q160
            go_wp2_with (first | ((with_reducible refine gate_callee (f := 111) rfl ?_); refine gL_ (some 97) Try.func111 #[.int .i64 ((rd_T35 l0_3 x6_3).f0), .int .i64 0, .int .i64 (wrap64 ((l0_0.length : Int) - 1))] ?_; (with_reducible refine (spec_l1In.calls ((rd_T35 l0_3 x6_3).f0) 0 (wrap64 ((l0_0.length : Int) - 1)) false _ A53.out).mono ?_); rintro e w' ⟨rfl, ⟨nd, rfl⟩⟩; refine ⟨_, rfl, ?_⟩))
            go_ret
            exact fI_ HB.out
          ·rw [if_neg c52] at H
           exact absurd H (by simp)
         ·rw [if_neg c51] at H
          have c51b0 : decide (x6_3 < (l0_3.length : Int)) = false := decide_eq_false c51
          clear c51
          obtain rfl := Option.some.inj H
          have z_57 := bR4_ BK149.out
          go_wp2
          go_ret
          exact fI_ HB.out
end Go.Proofs.Ytobachfngmpeiaa.PFnExactMachineNew
