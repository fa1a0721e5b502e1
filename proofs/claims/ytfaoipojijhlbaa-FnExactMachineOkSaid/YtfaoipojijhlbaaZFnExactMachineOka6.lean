/- A part of the proof that the law FnExactMachineOk holds for every input: the words, functions and walks that its row needs, without a condition of their own. -/
import Derived.Test.YtfaoipojijhlbaaZFnExactMachineOka2
import Derived.Test.YtfaoipojijhlbaaZFnExactMachineOka4
import Derived.Test.YtfaoipojijhlbaaZFnExactMachineOka5
import Derived.Test.YtfaoipojijhlbaaZFnExactMachineOks
namespace Go.Proofs.Ytfaoipojijhlbaa.PFnExactMachineOk
open Go.RowKit Go.Proofs.YtfaoipojijhlbaaW.PrintWords Go.Proofs.YtfaoipojijhlbaaW.PrintLast Go.Proofs.YtfaoipojijhlbaaW.PrintMore
attribute [local go_sem] max2_int min2_int max_two min_two max_three min_three max_four min_four   -- for this text's walks alone
set_option linter.unusedVariables false
set_option linter.unusedSimpArgs false
mutual
def spec_MachineOk.j0 : Nat → Int → Bool → List (List (S145)) → List (S106) → List (List (S119)) → List (S93) → Option (Bool)
  | 0, _, _, _, _, _, _ => none
  | k + 1, x3, x31, x144000, x144001, x144002, x144003 => if x31 = true then (some false) else (spec_MachineOk.l0 k x3 0 x144000 x144001 x144002 x144003)
def spec_MachineOk.l0 : Nat → Int → Int → List (List (S145)) → List (S106) → List (List (S119)) → List (S93) → Option (Bool)
  | 0, _, _, _, _, _, _ => none
  | k + 1, x3, x4, x144000, x144001, x144002, x144003 => if x4 < x3 then (if 0 ≤ x4 then (if x4 < (x144001.length : Int) then (if x4 < (x144000.length : Int) then ((spec_CodeOk.f k (rd_L12 x144000 x4)).bind fun t149 => (if t149 = true then (if (((rd_T106 x144001 x4).f1).length : Int) = 8 then ((spec_l1In.f ((rd_T106 x144001 x4).f0) 0 (wrap64 (((rd_L12 x144000 x4).length : Int) - 1))).bind fun t151 => (if t151 = true then ((spec_l1In.f ((rd_T106 x144001 x4).f3) 0 2).bind fun t152 => (if t152 = true then ((spec_ViewOk.f k x144002 ((rd_T106 x144001 x4).f2)).bind fun t153 => (spec_MachineOk.j2 k x3 x4 (!t153) x144000 x144001 x144002 x144003)) else (spec_MachineOk.j2 k x3 x4 true x144000 x144001 x144002 x144003))) else (spec_MachineOk.j2 k x3 x4 true x144000 x144001 x144002 x144003))) else (spec_MachineOk.j2 k x3 x4 true x144000 x144001 x144002 x144003)) else (spec_MachineOk.j2 k x3 x4 true x144000 x144001 x144002 x144003))) else (none)) else (none)) else (none)) else (spec_MachineOk.l1 k x3 0 x144000 x144001 x144002 x144003)
def spec_MachineOk.j2 : Nat → Int → Int → Bool → List (List (S145)) → List (S106) → List (List (S119)) → List (S93) → Option (Bool)
  | 0, _, _, _, _, _, _, _ => none
  | k + 1, x3, x4, x81, x144000, x144001, x144002, x144003 => if x81 = true then (some false) else (spec_MachineOk.l0 k x3 (wrap64 (x4 + 1)) x144000 x144001 x144002 x144003)
def spec_MachineOk.l1 : Nat → Int → Int → List (List (S145)) → List (S106) → List (List (S119)) → List (S93) → Option (Bool)
  | 0, _, _, _, _, _, _ => none
  | k + 1, x3, x6, x144000, x144001, x144002, x144003 => if x6 < (x144003.length : Int) then (if 0 ≤ x6 then ((spec_l1In.f ((rd_T93 x144003 x6).f0) 0 (wrap64 (x3 - 1))).bind fun t155 => (if t155 = true then (spec_MachineOk.l1 k x3 (wrap64 (x6 + 1)) x144000 x144001 x144002 x144003) else (some false))) else (none)) else (some true)
end
def spec_MachineOk.f (k : Nat) (l0_0 : List (List (S145))) (l0_1 : List (S106)) (l0_2 : List (List (S119))) (l0_3 : List (S93)) : Option (Bool) := (spec_l1In.f (l0_0.length : Int) 1 4).bind fun t144 => (if t144 = true then (if (l0_1.length : Int) = (l0_0.length : Int) then ((spec_MemoryOk.f k l0_2).bind fun t145 => (if t145 = true then (spec_MachineOk.j0 k (l0_0.length : Int) (decide ((l0_3.length : Int) > 4000)) l0_0 l0_1 l0_2 l0_3) else (spec_MachineOk.j0 k (l0_0.length : Int) true l0_0 l0_1 l0_2 l0_3))) else (spec_MachineOk.j0 k (l0_0.length : Int) true l0_0 l0_1 l0_2 l0_3)) else (spec_MachineOk.j0 k (l0_0.length : Int) true l0_0 l0_1 l0_2 l0_3))
def spec_MachineOk.T8 : Bool × List (List Nat × List Nat) := (true, [([], []), ([0], [0]), ([], []), ([1, 2], [1, 2]), ([3], [3]), ([4], [4]), ([5], [5]), ([6, 5], [6]), ([7], [7]), ([8, 7], [7, 8]), ([9, 7], [7, 9]), ([10, 7], [7, 10]), ([7, 11], [7, 11]), ([12, 7], [12]), ([13], [13]), ([14, 13], [13, 14]), ([13], [13]), ([16, 13], [13, 16]), ([13], [13]), ([17, 18, 13], [13, 17, 18]), ([19, 13], [13, 19]), ([20, 13], [13, 20]), ([21, 13], [13, 21]), ([15, 22, 13, 13], [13, 15, 22]), ([23, 13], [13, 23]), ([13, 24], [13, 24]), ([25, 23], [25]), ([26], [26]), ([27, 26], [26, 27]), ([28, 26, 26], [26, 28]), ([29, 26], [26, 29]), ([26, 30], [26, 30]), ([31, 29], [31]), ([32], [32]), ([33, 32], [32, 33]), ([32], [32]), ([35, 32], [32, 35]), ([34, 36, 32, 32], [32, 34, 36]), ([37, 32], [32, 37]), ([32, 38], [32, 38])])
def spec_MachineOk.B8 : List Nat := [0, 1, 0, 7, 15, 31, 63, 127, 255, 511, 1023, 2047, 4095, 8191, 16383, 32767, 16383, 81919, 16383, 475135, 999423, 2047999, 4145151, 8388607, 16777215, 33554431, 67108863, 134217727, 268435455, 536870911, 1073741823, 2147483647, 4294967295, 8589934591, 17179869183, 8589934591, 42949672959, 137438953471, 274877906943, 549755813887]
theorem spec_MachineOk.tab8 : rtab .any (opsOf Try.f22 8) = spec_MachineOk.T8 := by kernel_rfl
theorem spec_MachineOk.bits8 : waitsOk spec_MachineOk.T8.2 spec_MachineOk.B8 = true := by kernel_rfl
set_option maxHeartbeats 8000000 in
set_option maxRecDepth 100000 in
theorem spec_MachineOk.calls (k : Nat) (A0_0 : Option Addr) (c0_0 : Nat) (l0_0 : List (List (S145))) (A0_1 : Option Addr) (c0_1 : Nat) (l0_1 : List (S106)) (A0_2 : Option Addr) (c0_2 : Nat) (l0_2 : List (List (S119))) (A0_3 : Option Addr) (c0_3 : Nat) (l0_3 : List (S93)) (r : Bool) (w : World) (hr0_0 : Kd.C (Kd.slice 145 k145) w A0_0 l0_0.length l0_0) (hc0_0 : l0_0.length ≤ c0_0) (hr0_1 : Kd.C k106 w A0_1 l0_1.length l0_1) (hc0_1 : l0_1.length ≤ c0_1) (hr0_2 : Kd.C (Kd.slice 119 k119) w A0_2 l0_2.length l0_2) (hc0_2 : l0_2.length ≤ c0_2) (hr0_3 : Kd.C k93 w A0_3 l0_3.length l0_3) (hc0_3 : l0_3.length ≤ c0_3) (h : spec_MachineOk.f k l0_0 l0_1 l0_2 l0_3 = some r) :
  Calls Try.prog 22 #[.agg #[.slice A0_0 l0_0.length c0_0, .slice A0_1 l0_1.length c0_1, .slice A0_2 l0_2.length c0_2, .slice A0_3 l0_3.length c0_3]] w fun e w' => e = .returned (.bool r) ∧ Below w.heap.size w w' := by
 have hu69 := Try.underlying69
 have hu30 := Try.underlying30
 have hu106 := Try.underlying106
 have HR0_0 := aM_ hr0_0
 have HC0_0 := aM_ hc0_0
 clear hr0_0 hc0_0
 have HR0_1 := aM_ hr0_1
 have HC0_1 := aM_ hc0_1
 clear hr0_1 hc0_1
 have HR0_2 := aM_ hr0_2
 have HC0_2 := aM_ hc0_2
 clear hr0_2 hc0_2
 have HR0_3 := aM_ hr0_3
 have HC0_3 := aM_ hc0_3
 clear hr0_3 hc0_3
 have HB := aM_ (Below.refl w.heap.size w)
 have H : ((spec_l1In.f (l0_0.length : Int) 1 4).bind fun t144 => (if t144 = true then (if (l0_1.length : Int) = (l0_0.length : Int) then ((spec_MemoryOk.f k l0_2).bind fun t145 => (if t145 = true then (spec_MachineOk.j0 k (l0_0.length : Int) (decide ((l0_3.length : Int) > 4000)) l0_0 l0_1 l0_2 l0_3) else (spec_MachineOk.j0 k (l0_0.length : Int) true l0_0 l0_1 l0_2 l0_3))) else (spec_MachineOk.j0 k (l0_0.length : Int) true l0_0 l0_1 l0_2 l0_3)) else (spec_MachineOk.j0 k (l0_0.length : Int) true l0_0 l0_1 l0_2 l0_3))) = some r := h
 clear h
 have HC2 := aM_ H
 clear H
 go_enter Try.func22, Try.ntmps22
 go_upto_region 2 with (first | ((with_reducible refine gate_dst (N := 1) rfl ?_); (try (refine gate_guard (by rfl) ?_; dsimp only)); refine bX_ 1 (cs := #[.slice A0_0 l0_0.length c0_0, .slice A0_1 l0_1.length c0_1, .slice A0_2 l0_2.length c0_2, .slice A0_3 l0_3.length c0_3]) (t := 69) ?_; intro gb143 hg w3 hbox hb; have n0 := aM_ (sT_ HB.out hb); have n1 := aM_ (hbox); have n2 := aM_ (sZ_ hg HB.out); have n3 := aM_ (sZ_ hg HB.out); clear HB; have HB := n0; have BK143 := n1; have GW143 := n2; have GE143 := n3; clear n0 n1 n2 n3; clear hb hbox hg; obtain ⟨hcz4_0, hcz4_1, hcz4_2, hcz4_3, hfz4_0, hfz4_1, hfz4_2, hfz4_3⟩ := bR4_ BK143.out))
 (try simp only [Act.put, List.setIfInBounds_toArray, List.set_cons_zero, List.set_cons_succ])
 go_cut [31] (fun v31 wc => ∃ (kq : Nat) (x31_1 : Bool), v31 = .bool x31_1 ∧ Aside0 (spec_MachineOk.j0 kq (l0_0.length : Int) x31_1 l0_0 l0_1 l0_2 l0_3 = some r) ∧ Aside0 (kq ≤ k) ∧ Aside0 (wc.heap[gb143]? = some (.cells #[(.slice A0_0 l0_0.length c0_0), (.slice A0_1 l0_1.length c0_1), (.slice A0_2 l0_2.length c0_2), (.slice A0_3 l0_3.length c0_3)] 69 (0, 0))) ∧ Aside0 (Below w.heap.size w wc))
 case first =>
  have H := HC2.out
  clear HC2
  replace H := Option.bind_eq_some_iff.mp H
  obtain ⟨t144, A50, H⟩ := H
  replace H : (if t144 = true then (if (l0_1.length : Int) = (l0_0.length : Int) then ((spec_MemoryOk.f k l0_2).bind fun t145 => (if t145 = true then (spec_MachineOk.j0 k (l0_0.length : Int) (decide ((l0_3.length : Int) > 4000)) l0_0 l0_1 l0_2 l0_3) else (spec_MachineOk.j0 k (l0_0.length : Int) true l0_0 l0_1 l0_2 l0_3))) else (spec_MachineOk.j0 k (l0_0.length : Int) true l0_0 l0_1 l0_2 l0_3)) else (spec_MachineOk.j0 k (l0_0.length : Int) true l0_0 l0_1 l0_2 l0_3)) = some r := H
  have A5 := aM_ A50
  clear A50
  by_cases c6 : t144 = true
  ·subst c6
   have H1 : (if (l0_1.length : Int) = (l0_0.length : Int) then ((spec_MemoryOk.f k l0_2).bind fun t145 => (if t145 = true then (spec_MachineOk.j0 k (l0_0.length : Int) (decide ((l0_3.length : Int) > 4000)) l0_0 l0_1 l0_2 l0_3) else (spec_MachineOk.j0 k (l0_0.length : Int) true l0_0 l0_1 l0_2 l0_3))) else (spec_MachineOk.j0 k (l0_0.length : Int) true l0_0 l0_1 l0_2 l0_3)) = some r := by rw [if_pos rfl] at H; exact H
   clear H
   have H := H1
   clear H1
   by_cases c7 : (l0_1.length : Int) = (l0_0.length : Int)
   ·rw [if_pos c7] at H
    have c7b0 : ((l0_1.length : Int) == (l0_0.length : Int)) = true := beq_iff_eq.mpr c7
    have c7b1 : ((l0_1.length : Int) != (l0_0.length : Int)) = false := bne_eq_false_iff_eq.mpr c7
    have c7b2 : (l0_1.length == l0_0.length) = true := by first | simpa using c7 | (simp at c7 ⊢; omega)
    clear c7
    (first | rw [c7b0] | (simp only [i64_w, i32_w]; rw [c7b0]) | skip)
    replace H := Option.bind_eq_some_iff.mp H
    obtain ⟨t145, A80, H⟩ := H
    replace H : (if t145 = true then (spec_MachineOk.j0 k (l0_0.length : Int) (decide ((l0_3.length : Int) > 4000)) l0_0 l0_1 l0_2 l0_3) else (spec_MachineOk.j0 k (l0_0.length : Int) true l0_0 l0_1 l0_2 l0_3)) = some r := H
    have A8 := aM_ A80
    clear A80
    by_cases c9 : t145 = true
    ·subst c9
     have H1 : (spec_MachineOk.j0 k (l0_0.length : Int) (decide ((l0_3.length : Int) > 4000)) l0_0 l0_1 l0_2 l0_3) = some r := by rw [if_pos rfl] at H; exact H
     clear H
     have H := H1
     clear H1
     have H' := aM_ H
     clear H
     go_wp2_with (first | ((with_reducible refine gate_callee (f := 41) rfl ?_); refine gL_ (some 11) Try.func41 #[.int .i64 (l0_0.length : Int), .int .i64 1, .int .i64 4] ?_; (with_reducible refine (spec_l1In.calls (l0_0.length : Int) 1 4 true _ A5.out).mono ?_); rintro e w' ⟨rfl, ⟨nd, rfl⟩⟩; refine ⟨_, rfl, ?_⟩; obtain ⟨hcz10_0, hcz10_1, hcz10_2, hcz10_3, hfz10_0, hfz10_1, hfz10_2, hfz10_3⟩ := bR4_ BK143.out) | (go_at_call 28; (with_reducible refine (spec_MemoryOk.calls k _ _ l0_2 true _ ?side1 ?side2 A8.out).mono ?_); (case side1 => exact cS_ (Kd.C_below HR0_2.out (by repeat (first | (with_reducible first | exact HB.out | apply hA_ | apply hN_ | apply hD_ | refine below_set ?_ GE143.out) | exact HB.out)))); (case side2 => exact HC0_2.out); rintro e w11 ⟨rfl, hb⟩; have n0 := aM_ (nB_ BK143.out hb); have n1 := aM_ (sT_ HB.out hb); clear BK143; clear HB; have BK143 := n0; have HB := n1; clear n0 n1; obtain ⟨hcz12_0, hcz12_1, hcz12_2, hcz12_3, hfz12_0, hfz12_1, hfz12_2, hfz12_3⟩ := bR4_ BK143.out))
     go_meet
     case rel => exact ⟨_, (decide ((l0_3.length : Int) > 4000)), (by first | rfl | (simp; done) | (simp [*]; done)), H', ⟨by first | omega | exact Nat.le_refl _⟩, ⟨rW_ BK143.out⟩, ⟨gW_ HB.out⟩⟩
    ·replace c9 := Bool.eq_false_iff.mpr c9
     subst c9
     have H1 : (spec_MachineOk.j0 k (l0_0.length : Int) true l0_0 l0_1 l0_2 l0_3) = some r := by rw [if_neg (show ¬ (false = true) by decide)] at H; exact H
     clear H
     have H := H1
     clear H1
     have H' := aM_ H
     clear H
     go_wp2_with (first | ((with_reducible refine gate_callee (f := 41) rfl ?_); refine gL_ (some 11) Try.func41 #[.int .i64 (l0_0.length : Int), .int .i64 1, .int .i64 4] ?_; (with_reducible refine (spec_l1In.calls (l0_0.length : Int) 1 4 true _ A5.out).mono ?_); rintro e w' ⟨rfl, ⟨nd, rfl⟩⟩; refine ⟨_, rfl, ?_⟩; obtain ⟨hcz13_0, hcz13_1, hcz13_2, hcz13_3, hfz13_0, hfz13_1, hfz13_2, hfz13_3⟩ := bR4_ BK143.out) | (go_at_call 28; (with_reducible refine (spec_MemoryOk.calls k _ _ l0_2 false _ ?side1 ?side2 A8.out).mono ?_); (case side1 => exact cS_ (Kd.C_below HR0_2.out (by repeat (first | (with_reducible first | exact HB.out | apply hA_ | apply hN_ | apply hD_ | refine below_set ?_ GE143.out) | exact HB.out)))); (case side2 => exact HC0_2.out); rintro e w14 ⟨rfl, hb⟩; have n0 := aM_ (nB_ BK143.out hb); have n1 := aM_ (sT_ HB.out hb); clear BK143; clear HB; have BK143 := n0; have HB := n1; clear n0 n1))
     go_meet
     case rel => exact ⟨_, (true), (by first | rfl | (simp; done) | (simp [*]; done)), H', ⟨by first | omega | exact Nat.le_refl _⟩, ⟨rW_ BK143.out⟩, ⟨gW_ HB.out⟩⟩
   ·rw [if_neg c7] at H
    have c7b0 : ((l0_1.length : Int) == (l0_0.length : Int)) = false := beq_eq_false_iff_ne.mpr c7
    have c7b1 : ((l0_1.length : Int) != (l0_0.length : Int)) = true := bne_iff_ne.mpr c7
    have c7b2 : (l0_1.length == l0_0.length) = false := by first | simpa using c7 | (simp at c7 ⊢; omega)
    (first | rw [c7b0] | (simp only [i64_w, i32_w]; rw [c7b0]) | skip)
    have H' := aM_ H
    clear H
    go_wp2_with (first | ((with_reducible refine gate_callee (f := 41) rfl ?_); refine gL_ (some 11) Try.func41 #[.int .i64 (l0_0.length : Int), .int .i64 1, .int .i64 4] ?_; (with_reducible refine (spec_l1In.calls (l0_0.length : Int) 1 4 true _ A5.out).mono ?_); rintro e w' ⟨rfl, ⟨nd, rfl⟩⟩; refine ⟨_, rfl, ?_⟩; obtain ⟨hcz15_0, hcz15_1, hcz15_2, hcz15_3, hfz15_0, hfz15_1, hfz15_2, hfz15_3⟩ := bR4_ BK143.out))
    go_meet
    case rel => exact ⟨_, (true), (by first | rfl | (simp; done) | (simp [*]; done)), H', ⟨by first | omega | exact Nat.le_refl _⟩, ⟨rW_ BK143.out⟩, ⟨gW_ HB.out⟩⟩
  ·replace c6 := Bool.eq_false_iff.mpr c6
   subst c6
   have H1 : (spec_MachineOk.j0 k (l0_0.length : Int) true l0_0 l0_1 l0_2 l0_3) = some r := by rw [if_neg (show ¬ (false = true) by decide)] at H; exact H
   clear H
   have H := H1
   clear H1
   have H' := aM_ H
   clear H
   go_wp2_with (first | ((with_reducible refine gate_callee (f := 41) rfl ?_); refine gL_ (some 11) Try.func41 #[.int .i64 (l0_0.length : Int), .int .i64 1, .int .i64 4] ?_; (with_reducible refine (spec_l1In.calls (l0_0.length : Int) 1 4 false _ A5.out).mono ?_); rintro e w' ⟨rfl, ⟨nd, rfl⟩⟩; refine ⟨_, rfl, ?_⟩))
   go_meet
   case rel => exact ⟨_, (true), (by first | rfl | (simp; done) | (simp [*]; done)), H', ⟨by first | omega | exact Nat.le_refl _⟩, ⟨rW_ BK143.out⟩, ⟨gW_ HB.out⟩⟩
 case rest =>
  clear HC2
  try clear c2
  try clear p2
  try clear c4
  try clear c6
  try clear c7
  try clear c7b0
  try clear c7b1
  try clear c7b2
  try clear c9
  try clear hcz10_0
  try clear hcz10_1
  try clear hcz10_2
  try clear hcz10_3
  try clear hcz12_0
  try clear hcz12_1
  try clear hcz12_2
  try clear hcz12_3
  try clear hcz13_0
  try clear hcz13_1
  try clear hcz13_2
  try clear hcz13_3
  try clear hcz15_0
  try clear hcz15_1
  try clear hcz15_2
  try clear hcz15_3
  try clear hcz4_0
  try clear hcz4_1
  try clear hcz4_2
  try clear hcz4_3
  try clear hfz10_0
  try clear hfz10_1
  try clear hfz10_2
  try clear hfz10_3
  try clear hfz12_0
  try clear hfz12_1
  try clear hfz12_2
  try clear hfz12_3
  try clear hfz13_0
  try clear hfz13_1
  try clear hfz13_2
  try clear hfz13_3
  try clear hfz15_0
  try clear hfz15_1
  try clear hfz15_2
  try clear hfz15_3
  try clear hfz4_0
  try clear hfz4_1
  try clear hfz4_2
  try clear hfz4_3
  obtain ⟨kq, x31_1, rfl, HA, HJ1, BK143, HB⟩ := hcut
  cases kq with
  | zero => exact absurd HA.out (by simp [spec_MachineOk.j0])
  | succ kj1 =>
   have H := HA.out
   clear HA
   simp only [spec_MachineOk.j0] at H
   by_cases c16 : x31_1 = true
   ·subst c16
    have H1 : (some false) = some r := by rw [if_pos rfl] at H; exact H
    clear H
    have H := H1
    clear H1
    obtain rfl := Option.some.inj H
    go_wp2
    go_ret
    exact fI_ HB.out
   ·replace c16 := Bool.eq_false_iff.mpr c16
    subst c16
    have H1 : (spec_MachineOk.l0 kj1 (l0_0.length : Int) 0 l0_0 l0_1 l0_2 l0_3) = some r := by rw [if_neg (show ¬ (false = true) by decide)] at H; exact H
    clear H
    have H := H1
    clear H1
    have H' := aM_ H
    clear H
    go_wp2
    go_loopg [4] kj1 (fun kq v4 w' => ∃ (x4_2 : Int), v4 = .int .i64 x4_2 ∧ Aside0 (spec_MachineOk.l0 kq (l0_0.length : Int) x4_2 l0_0 l0_1 l0_2 l0_3 = some r) ∧ Aside0 (kq ≤ kj1) ∧ Aside0 (w'.heap[gb143]? = some (.cells #[(.slice A0_0 l0_0.length c0_0), (.slice A0_1 l0_1.length c0_1), (.slice A0_2 l0_2.length c0_2), (.slice A0_3 l0_3.length c0_3)] 69 (0, 0))) ∧ Aside0 (Below w.heap.size w w'))
    case atStart => exact ⟨(0), (by first | rfl | (simp; done) | (simp [*]; done)), H', ⟨Nat.le_refl _⟩, ⟨rW_ BK143.out⟩, ⟨gW_ HB.out⟩⟩
    case round =>
     clear H'
     try clear c1
     try clear c2
     try clear p2
     try clear c4
     try clear c6
     try clear c7
     try clear c7b0
     try clear c7b1
     try clear c7b2
     try clear c9
     try clear c16
     try clear hcz10_0
     try clear hcz10_1
     try clear hcz10_2
     try clear hcz10_3
     try clear hcz12_0
     try clear hcz12_1
     try clear hcz12_2
     try clear hcz12_3
     try clear hcz13_0
     try clear hcz13_1
     try clear hcz13_2
     try clear hcz13_3
     try clear hcz15_0
     try clear hcz15_1
     try clear hcz15_2
     try clear hcz15_3
     try clear hcz4_0
     try clear hcz4_1
     try clear hcz4_2
     try clear hcz4_3
     try clear hfz10_0
     try clear hfz10_1
     try clear hfz10_2
     try clear hfz10_3
     try clear hfz12_0
     try clear hfz12_1
     try clear hfz12_2
     try clear hfz12_3
     try clear hfz13_0
     try clear hfz13_1
     try clear hfz13_2
     try clear hfz13_3
     try clear hfz15_0
     try clear hfz15_1
     try clear hfz15_2
     try clear hfz15_3
     try clear hfz4_0
     try clear hfz4_1
     try clear hfz4_2
     try clear hfz4_3
     try clear p2
     obtain ⟨x4_2, rfl, HA, HK2, BK143, HB⟩ := hrel
     cases gk with
     | zero => exact absurd HA.out (by simp [spec_MachineOk.l0])
     | succ k2 =>
      have H := HA.out
      clear HA
      simp only [spec_MachineOk.l0] at H
      by_cases c17 : x4_2 < (l0_0.length : Int)
      ·rw [if_pos c17] at H
       have c17b0 : decide (x4_2 < (l0_0.length : Int)) = true := decide_eq_true c17
       clear c17
       by_cases c18 : 0 ≤ x4_2
       ·rw [if_pos c18] at H
        have c18b0 : decide (0 ≤ x4_2) = true := decide_eq_true c18
        clear c18
        by_cases c19 : x4_2 < (l0_1.length : Int)
        ·rw [if_pos c19] at H
         have c19b0 : decide (x4_2 < (l0_1.length : Int)) = true := decide_eq_true c19
         clear c19
         have HC20 := aM_ H
         clear H
         obtain ⟨hcz21_0, hcz21_1, hcz21_2, hcz21_3, hfz21_0, hfz21_1, hfz21_2, hfz21_3⟩ := bR4_ BK143.out
         have p146 : 0 ≤ (x4_2 : Int) := of_decide_eq_true (by first | (with_reducible assumption) | assumption)
         have q146 : x4_2 < (l0_1.length : Int) := of_decide_eq_true (by first | (with_reducible assumption) | assumption)
         obtain ⟨ad146, A146_1, c146_1, A146_2, c146_2, e146, hx146_0, hx146_1, hx146_2, hx146_3, hl146_1, hi146_1, hl146_2, hi146_2⟩ := at_T106 HR0_1.out x4_2 p146 q146
         cases e146
         replace hx146_0 := cB_ HB.out hx146_0
         replace hx146_1 := cB_ HB.out hx146_1
         replace hx146_2 := cB_ HB.out hx146_2
         replace hx146_3 := cB_ HB.out hx146_3
         have HR146_1 := aM_ hi146_1
         have HC146_1 := aM_ hl146_1
         clear hi146_1 hl146_1
         have HR146_2 := aM_ hi146_2
         have HC146_2 := aM_ hl146_2
         clear hi146_2 hl146_2
         replace p146 := eq_true p146
         replace q146 := eq_true q146
         go_upto_region 8 with (first | ((with_reducible refine gate_dst (N := 5) rfl ?_); (try (refine gate_guard (by rfl) ?_; dsimp only)); refine bX_ 5 (cs := #[.int .i64 0, .slice none 0 0, .slice none 0 0, .int .i64 0]) (t := 106) ?_; intro gb147 hg w22 hbox hb; have n0 := aM_ (nB_ BK143.out hb); have n1 := aM_ (sT_ HB.out hb); have n2 := aM_ (hbox); have n3 := aM_ (sZ_ hg HB.out); have n4 := aM_ (sZ_ hg HB.out); have n5 := aM_ (nL_ hg BK143.out); have n6 := aM_ (nG_ hg BK143.out); clear BK143; clear HB; have BK143 := n0; have HB := n1; have BK147 := n2; have GW147 := n3; have GE147 := n4; have NB143_147 := n5; have NB147_143 := n6; clear n0 n1 n2 n3 n4 n5 n6; clear hb hbox hg; have hnb23 := NB147_143.out; have hnc23 := NB143_147.out; obtain ⟨hcz24_0, hcz24_1, hcz24_2, hcz24_3, hfz24_0, hfz24_1, hfz24_2, hfz24_3⟩ := bR4_ BK147.out))
         (try simp only [Act.put, List.setIfInBounds_toArray, List.set_cons_zero, List.set_cons_succ])
         go_cut [81] (fun v81 wc => ∃ (kq : Nat) (x81_19 : Bool), v81 = .bool x81_19 ∧ Aside0 (spec_MachineOk.j2 kq (l0_0.length : Int) x4_2 x81_19 l0_0 l0_1 l0_2 l0_3 = some r) ∧ Aside0 (kq ≤ k2) ∧ Aside0 (wc.heap[gb143]? = some (.cells #[(.slice A0_0 l0_0.length c0_0), (.slice (some ad146) l0_1.length c0_1), (.slice A0_2 l0_2.length c0_2), (.slice A0_3 l0_3.length c0_3)] 69 (0, 0))) ∧ Aside0 (wc.heap[gb147]? = some (.cells #[.int .i64 ((rd_T106 l0_1 x4_2).f0), (.slice A146_1 ((rd_T106 l0_1 x4_2).f1).length c146_1), (.slice A146_2 ((rd_T106 l0_1 x4_2).f2).length c146_2), .int .i64 ((rd_T106 l0_1 x4_2).f3)] 106 (0, 0))) ∧ Aside0 (Below w.heap.size w wc))
         case first =>
          have H := HC20.out
          clear HC20
          by_cases c25 : x4_2 < (l0_0.length : Int)
          ·rw [if_pos c25] at H
           have c25b0 : decide (x4_2 < (l0_0.length : Int)) = true := decide_eq_true c25
           clear c25
           (first | rw [c25b0] | (simp only [i64_w, i32_w]; rw [c25b0]) | skip)
           replace H := Option.bind_eq_some_iff.mp H
           obtain ⟨t149, A260, H⟩ := H
           replace H : (if t149 = true then (if (((rd_T106 l0_1 x4_2).f1).length : Int) = 8 then ((spec_l1In.f ((rd_T106 l0_1 x4_2).f0) 0 (wrap64 (((rd_L12 l0_0 x4_2).length : Int) - 1))).bind fun t151 => (if t151 = true then ((spec_l1In.f ((rd_T106 l0_1 x4_2).f3) 0 2).bind fun t152 => (if t152 = true then ((spec_ViewOk.f k2 l0_2 ((rd_T106 l0_1 x4_2).f2)).bind fun t153 => (spec_MachineOk.j2 k2 (l0_0.length : Int) x4_2 (!t153) l0_0 l0_1 l0_2 l0_3)) else (spec_MachineOk.j2 k2 (l0_0.length : Int) x4_2 true l0_0 l0_1 l0_2 l0_3))) else (spec_MachineOk.j2 k2 (l0_0.length : Int) x4_2 true l0_0 l0_1 l0_2 l0_3))) else (spec_MachineOk.j2 k2 (l0_0.length : Int) x4_2 true l0_0 l0_1 l0_2 l0_3)) else (spec_MachineOk.j2 k2 (l0_0.length : Int) x4_2 true l0_0 l0_1 l0_2 l0_3)) = some r := H
           have A26 := aM_ A260
           clear A260
           by_cases c27 : t149 = true
           ·subst c27
            have H1 : (if (((rd_T106 l0_1 x4_2).f1).length : Int) = 8 then ((spec_l1In.f ((rd_T106 l0_1 x4_2).f0) 0 (wrap64 (((rd_L12 l0_0 x4_2).length : Int) - 1))).bind fun t151 => (if t151 = true then ((spec_l1In.f ((rd_T106 l0_1 x4_2).f3) 0 2).bind fun t152 => (if t152 = true then ((spec_ViewOk.f k2 l0_2 ((rd_T106 l0_1 x4_2).f2)).bind fun t153 => (spec_MachineOk.j2 k2 (l0_0.length : Int) x4_2 (!t153) l0_0 l0_1 l0_2 l0_3)) else (spec_MachineOk.j2 k2 (l0_0.length : Int) x4_2 true l0_0 l0_1 l0_2 l0_3))) else (spec_MachineOk.j2 k2 (l0_0.length : Int) x4_2 true l0_0 l0_1 l0_2 l0_3))) else (spec_MachineOk.j2 k2 (l0_0.length : Int) x4_2 true l0_0 l0_1 l0_2 l0_3)) = some r := by rw [if_pos rfl] at H; exact H
            clear H
            have H := H1
            clear H1
            by_cases c28 : (((rd_T106 l0_1 x4_2).f1).length : Int) = 8
            ·rw [if_pos c28] at H
             have c28b0 : ((((rd_T106 l0_1 x4_2).f1).length : Int) == 8) = true := beq_iff_eq.mpr c28
             have c28b1 : ((((rd_T106 l0_1 x4_2).f1).length : Int) != 8) = false := bne_eq_false_iff_eq.mpr c28
             clear c28
             replace H := Option.bind_eq_some_iff.mp H
             obtain ⟨t151, A290, H⟩ := H
             replace H : (if t151 = true then ((spec_l1In.f ((rd_T106 l0_1 x4_2).f3) 0 2).bind fun t152 => (if t152 = true then ((spec_ViewOk.f k2 l0_2 ((rd_T106 l0_1 x4_2).f2)).bind fun t153 => (spec_MachineOk.j2 k2 (l0_0.length : Int) x4_2 (!t153) l0_0 l0_1 l0_2 l0_3)) else (spec_MachineOk.j2 k2 (l0_0.length : Int) x4_2 true l0_0 l0_1 l0_2 l0_3))) else (spec_MachineOk.j2 k2 (l0_0.length : Int) x4_2 true l0_0 l0_1 l0_2 l0_3)) = some r := H
             have A29 := aM_ A290
             clear A290
             by_cases c30 : t151 = true
             ·subst c30
              have H1 : ((spec_l1In.f ((rd_T106 l0_1 x4_2).f3) 0 2).bind fun t152 => (if t152 = true then ((spec_ViewOk.f k2 l0_2 ((rd_T106 l0_1 x4_2).f2)).bind fun t153 => (spec_MachineOk.j2 k2 (l0_0.length : Int) x4_2 (!t153) l0_0 l0_1 l0_2 l0_3)) else (spec_MachineOk.j2 k2 (l0_0.length : Int) x4_2 true l0_0 l0_1 l0_2 l0_3))) = some r := by rw [if_pos rfl] at H; exact H
              clear H
              have H := H1
              clear H1
              replace H := Option.bind_eq_some_iff.mp H
              obtain ⟨t152, A310, H⟩ := H
              replace H : (if t152 = true then ((spec_ViewOk.f k2 l0_2 ((rd_T106 l0_1 x4_2).f2)).bind fun t153 => (spec_MachineOk.j2 k2 (l0_0.length : Int) x4_2 (!t153) l0_0 l0_1 l0_2 l0_3)) else (spec_MachineOk.j2 k2 (l0_0.length : Int) x4_2 true l0_0 l0_1 l0_2 l0_3)) = some r := H
              have A31 := aM_ A310
              clear A310
              by_cases c32 : t152 = true
              ·subst c32
               have H1 : ((spec_ViewOk.f k2 l0_2 ((rd_T106 l0_1 x4_2).f2)).bind fun t153 => (spec_MachineOk.j2 k2 (l0_0.length : Int) x4_2 (!t153) l0_0 l0_1 l0_2 l0_3)) = some r := by rw [if_pos rfl] at H; exact H
               clear H
               have H := H1
               clear H1
               replace H := Option.bind_eq_some_iff.mp H
               obtain ⟨t153, A330, H⟩ := H
               replace H : (spec_MachineOk.j2 k2 (l0_0.length : Int) x4_2 (!t153) l0_0 l0_1 l0_2 l0_3) = some r := H
               have A33 := aM_ A330
               clear A330
               have H' := aM_ H
               clear H
               try go_wp2
               have n0 : Aside0 (((((w22.setCell ⟨gb147, 0, none⟩ (.int .i64 ((rd_T106 l0_1 x4_2).f0))).setCell ⟨gb147, 1, none⟩ (.slice A146_1 ((rd_T106 l0_1 x4_2).f1).length c146_1)).setCell ⟨gb147, 2, none⟩ (.slice A146_2 ((rd_T106 l0_1 x4_2).f2).length c146_2)).setCell ⟨gb147, 3, none⟩ (.int .i64 ((rd_T106 l0_1 x4_2).f3))).heap[gb143]? = some (.cells #[.slice A0_0 l0_0.length c0_0, .slice (some ad146) l0_1.length c0_1, .slice A0_2 l0_2.length c0_2, .slice A0_3 l0_3.length c0_3] 69 (0, 0))) := ⟨by (with_reducible repeat (first | refine bN_ ?_ _ | refine bD_ ?_ | refine bA_ ?_ _)); refine blk_far ?_ NB143_147.out _; (with_reducible repeat (first | refine bN_ ?_ _ | refine bD_ ?_ | refine bA_ ?_ _)); refine blk_far ?_ NB143_147.out _; (with_reducible repeat (first | refine bN_ ?_ _ | refine bD_ ?_ | refine bA_ ?_ _)); refine blk_far ?_ NB143_147.out _; (with_reducible repeat (first | refine bN_ ?_ _ | refine bD_ ?_ | refine bA_ ?_ _)); refine blk_far ?_ NB143_147.out _; (with_reducible repeat (first | refine bN_ ?_ _ | refine bD_ ?_ | refine bA_ ?_ _)); exact BK143.out⟩
               have n1 : Aside0 (((((w22.setCell ⟨gb147, 0, none⟩ (.int .i64 ((rd_T106 l0_1 x4_2).f0))).setCell ⟨gb147, 1, none⟩ (.slice A146_1 ((rd_T106 l0_1 x4_2).f1).length c146_1)).setCell ⟨gb147, 2, none⟩ (.slice A146_2 ((rd_T106 l0_1 x4_2).f2).length c146_2)).setCell ⟨gb147, 3, none⟩ (.int .i64 ((rd_T106 l0_1 x4_2).f3))).heap[gb147]? = some (.cells #[.int .i64 ((rd_T106 l0_1 x4_2).f0), .slice A146_1 ((rd_T106 l0_1 x4_2).f1).length c146_1, .slice A146_2 ((rd_T106 l0_1 x4_2).f2).length c146_2, .int .i64 ((rd_T106 l0_1 x4_2).f3)] 106 (0, 0))) := ⟨by (with_reducible repeat (first | refine bN_ ?_ _ | refine bD_ ?_ | refine bA_ ?_ _)); refine blk_put (cs := #[.int .i64 ((rd_T106 l0_1 x4_2).f0), .slice A146_1 ((rd_T106 l0_1 x4_2).f1).length c146_1, .slice A146_2 ((rd_T106 l0_1 x4_2).f2).length c146_2, .int .i64 0]) ?_ 3 _ rfl; (with_reducible repeat (first | refine bN_ ?_ _ | refine bD_ ?_ | refine bA_ ?_ _)); refine blk_put (cs := #[.int .i64 ((rd_T106 l0_1 x4_2).f0), .slice A146_1 ((rd_T106 l0_1 x4_2).f1).length c146_1, .slice none 0 0, .int .i64 0]) ?_ 2 _ rfl; (with_reducible repeat (first | refine bN_ ?_ _ | refine bD_ ?_ | refine bA_ ?_ _)); refine blk_put (cs := #[.int .i64 ((rd_T106 l0_1 x4_2).f0), .slice none 0 0, .slice none 0 0, .int .i64 0]) ?_ 1 _ rfl; (with_reducible repeat (first | refine bN_ ?_ _ | refine bD_ ?_ | refine bA_ ?_ _)); refine blk_put (cs := #[.int .i64 0, .slice none 0 0, .slice none 0 0, .int .i64 0]) ?_ 0 _ rfl; (with_reducible repeat (first | refine bN_ ?_ _ | refine bD_ ?_ | refine bA_ ?_ _)); exact BK147.out⟩
               have n2 : Aside0 (Below w.heap.size w ((((w22.setCell ⟨gb147, 0, none⟩ (.int .i64 ((rd_T106 l0_1 x4_2).f0))).setCell ⟨gb147, 1, none⟩ (.slice A146_1 ((rd_T106 l0_1 x4_2).f1).length c146_1)).setCell ⟨gb147, 2, none⟩ (.slice A146_2 ((rd_T106 l0_1 x4_2).f2).length c146_2)).setCell ⟨gb147, 3, none⟩ (.int .i64 ((rd_T106 l0_1 x4_2).f3)))) := ⟨gW_ HB.out⟩
               (try clear BK143)
               (try clear BK147)
               (try clear HB)
               generalize ((((w22.setCell ⟨gb147, 0, none⟩ (.int .i64 ((rd_T106 l0_1 x4_2).f0))).setCell ⟨gb147, 1, none⟩ (.slice A146_1 ((rd_T106 l0_1 x4_2).f1).length c146_1)).setCell ⟨gb147, 2, none⟩ (.slice A146_2 ((rd_T106 l0_1 x4_2).f2).length c146_2)).setCell ⟨gb147, 3, none⟩ (.int .i64 ((rd_T106 l0_1 x4_2).f3))) = w34 at n0 n1 n2 ⊢
               have BK143 := n0
               have BK147 := n1
               have HB := n2
               clear n0 n1 n2
               have n0 := aM_ (blk_drew BK143.out)
               have n1 := aM_ (blk_drew BK147.out)
               have n2 := aM_ (below_drew1 HB.out)
               clear BK143
               clear BK147
               clear HB
               have BK143 := n0
               have BK147 := n1
               have HB := n2
               clear n0 n1 n2
               have p148 : 0 ≤ (x4_2 : Int) := of_decide_eq_true (by first | (with_reducible assumption) | assumption)
               have q148 : x4_2 < (l0_0.length : Int) := of_decide_eq_true (by first | (with_reducible assumption) | assumption)
               obtain ⟨ad148, A148_0, c148_0, e148, hx148_0, hl148_0, hi148_0⟩ := at_L12 HR0_0.out x4_2 p148 q148
               have hw148_0 := hx148_0
               cases e148
               replace hx148_0 := cB_ HB.out hx148_0
               have HR148_0 := aM_ hi148_0
               have HC148_0 := aM_ hl148_0
               clear hi148_0 hl148_0
               replace p148 := eq_true p148
               replace q148 := eq_true q148
               have p150 : 0 ≤ (x4_2 : Int) := of_decide_eq_true (by first | (with_reducible assumption) | assumption)
               have q150 : x4_2 < (l0_0.length : Int) := of_decide_eq_true (by first | (with_reducible assumption) | assumption)
               obtain ⟨ad150, A150_0, c150_0, e150, hx150_0, hl150_0, hi150_0⟩ := at_L12 HR0_0.out x4_2 p150 q150
               have hw150_0 := hx150_0
               obtain rfl : ad148 = ad150 := (by injection e150)
               replace hx150_0 := cB_ HB.out hx150_0
               have HR150_0 := aM_ hi150_0
               have HC150_0 := aM_ hl150_0
               clear hi150_0 hl150_0
               replace p150 := eq_true p150
               replace q150 := eq_true q150
               refine start_ (n := 40) (S := fun w' => w'.cell? ⟨gb143, 0, none⟩ = some (.slice (some ad148) l0_0.length c0_0) ∧ w'.cell? ⟨gb143, 1, none⟩ = some (.slice (some ad146) l0_1.length c0_1) ∧ w'.cell? ⟨gb143, 2, none⟩ = some (.slice A0_2 l0_2.length c0_2) ∧ w'.cell? ⟨gb143, 3, none⟩ = some (.slice A0_3 l0_3.length c0_3) ∧ w'.cell? ⟨gb147, 0, none⟩ = some (.int .i64 ((rd_T106 l0_1 x4_2).f0)) ∧ w'.cell? ⟨gb147, 1, none⟩ = some (.slice A146_1 ((rd_T106 l0_1 x4_2).f1).length c146_1) ∧ w'.cell? ⟨gb147, 2, none⟩ = some (.slice A146_2 ((rd_T106 l0_1 x4_2).f2).length c146_2) ∧ w'.cell? ⟨gb147, 3, none⟩ = some (.int .i64 ((rd_T106 l0_1 x4_2).f3)) ∧ w'.cell? (ad148.add (x4_2).toNat) = some (.slice A148_0 (rd_L12 l0_0 x4_2).length c148_0) ∧ w'.cell? (ad148.add (x4_2).toNat) = some (.slice A150_0 (rd_L12 l0_0 x4_2).length c150_0)) (ds := []) (mk_ 40 0) (by kernel_rfl) rfl rfl ⟨(blk_cell BK143.out 0).trans rfl, (blk_cell BK143.out 1).trans rfl, (blk_cell BK143.out 2).trans rfl, (blk_cell BK143.out 3).trans rfl, (blk_cell BK147.out 0).trans rfl, (blk_cell BK147.out 1).trans rfl, (blk_cell BK147.out 2).trans rfl, (blk_cell BK147.out 3).trans rfl, (cB_ HB.out hw148_0 :), (cB_ HB.out hw150_0 :)⟩ (fun hHeld => ?_); refine with_tabW spec_MachineOk.tab8 spec_MachineOk.bits8 (fun HT_ HW_ => ?_)
               generalize w34.drew = w35 at BK143 BK147 HB HR148_0 HR150_0 hx148_0 hx150_0 hHeld ⊢
               refine pU_ 0 (some 42) (mk_ 40 1) ?_
               refine pU_ 2 (some 44) (mk_ 40 5) ?_
               refine tK10_ 1 (some 43) (mk_ 40 7) ?_
               refine pU_ 3 (some 45) (mk_ 40 15) ?_
               refine tK10_ 4 (some 46) (mk_ 40 31) ?_
               refine oN_ 5 (some 47) (mk_ 40 63) (fun K hK => ?_)
               refine gO_ Try.func57 #[.slice A148_0 (rd_L12 l0_0 x4_2).length c148_0] ?_
               with_reducible refine (spec_CodeOk.calls k2 _ _ (rd_L12 l0_0 x4_2) true _ ?side1 ?side2 A26.out).mono ?_
               (case side1 => exact cS_ (Kd.C_below HR148_0.out HB.out))
               (case side2 => exact HC148_0.out)
               rintro e w36 ⟨rfl, hb⟩
               refine ⟨_, rfl, ?_⟩
               have n0 := aM_ (nB_ BK143.out hb)
               have n1 := aM_ (nB_ BK147.out hb)
               have n2 := aM_ (sT_ HB.out hb)
               clear BK143
               clear BK147
               clear HB
               have BK143 := n0
               have BK147 := n1
               have HB := n2
               clear n0 n1 n2
               (try clear hb)
               (try clear hb2)
               (try clear hk)
               (try clear hi)
               refine hK.out _ _ ⟨(blk_cell BK143.out 0).trans rfl, (blk_cell BK143.out 1).trans rfl, (blk_cell BK143.out 2).trans rfl, (blk_cell BK143.out 3).trans rfl, (blk_cell BK147.out 0).trans rfl, (blk_cell BK147.out 1).trans rfl, (blk_cell BK147.out 2).trans rfl, (blk_cell BK147.out 3).trans rfl, (cB_ HB.out hw148_0 :), (cB_ HB.out hw150_0 :)⟩ (fun hHeld => ?_)
               clear hK K
               refine norm_ (a' := ?_) ?_ ?_
               rotate_left
               ·show Act.put _ (some 47) _ = _
                simp only [pt_, pn_, sI_, s0_, s1_, i64_w, i32_w]
                rfl
               refine pU_ 6 (some 48) (mk_ 40 127) ?_
               refine pU_ 7 (some 49) (mk_ 40 255) ?_
               refine pU_ 8 (some 50) (mk_ 40 511) ?_
               refine tK10_ 9 (some 51) (mk_ 40 1023) ?_
               refine pU_ 10 (some 52) (mk_ 40 2047) ?_
               refine pU_ 11 (some 53) (mk_ 40 4095) ?_
               refine pU_ 12 (some 54) (mk_ 40 8191) ?_
               refine pU_ 13 (some 55) (mk_ 40 16383) ?_
               refine pU_ 14 (some 56) (mk_ 40 32767) ?_
               refine pU_ 16 (some 58) (mk_ 40 98303) ?_
               refine pU_ 18 (some 60) (mk_ 40 360447) ?_
               refine tK10_ 15 (some 57) (mk_ 40 393215) ?_
               refine tK10_ 17 (some 59) (mk_ 40 524287) ?_
               refine pU_ 19 (some 61) (mk_ 40 1048575) ?_
               refine tK10_ 20 (some 62) (mk_ 40 2097151) ?_
               refine pU_ 21 (some 63) (mk_ 40 4194303) ?_
               refine pU_ 22 (some 64) (mk_ 40 8388607) ?_
               refine oN_ 23 (some 65) (mk_ 40 16777215) (fun K hK => ?_)
               refine gO_ Try.func41 #[.int .i64 ((rd_T106 l0_1 x4_2).f0), .int .i64 0, .int .i64 (wrap64 (((rd_L12 l0_0 x4_2).length : Int) - 1))] ?_
               with_reducible refine (spec_l1In.calls ((rd_T106 l0_1 x4_2).f0) 0 (wrap64 (((rd_L12 l0_0 x4_2).length : Int) - 1)) true _ A29.out).mono ?_
               rintro e w' ⟨rfl, ⟨nd, rfl⟩⟩
               refine ⟨_, rfl, ?_⟩
               refine hK.out _ _ ⟨(blk_cell BK143.out 0).trans rfl, (blk_cell BK143.out 1).trans rfl, (blk_cell BK143.out 2).trans rfl, (blk_cell BK143.out 3).trans rfl, (blk_cell BK147.out 0).trans rfl, (blk_cell BK147.out 1).trans rfl, (blk_cell BK147.out 2).trans rfl, (blk_cell BK147.out 3).trans rfl, (cB_ HB.out hw148_0 :), (cB_ HB.out hw150_0 :)⟩ (fun hHeld => ?_)
               clear hK K
               refine norm_ (a' := ?_) ?_ ?_
               rotate_left
               ·show Act.put _ (some 65) _ = _
                simp only [pt_, pn_, sI_, s0_, s1_, i64_w, i32_w]
                rfl
               refine pU_ 24 (some 66) (mk_ 40 33554431) ?_
               refine pU_ 25 (some 67) (mk_ 40 67108863) ?_
               refine pU_ 26 (some 68) (mk_ 40 134217727) ?_
               refine pU_ 27 (some 69) (mk_ 40 268435455) ?_
               refine tK10_ 28 (some 70) (mk_ 40 536870911) ?_
               refine oN_ 29 (some 71) (mk_ 40 1073741823) (fun K hK => ?_)
               refine gO_ Try.func41 #[.int .i64 ((rd_T106 l0_1 x4_2).f3), .int .i64 0, .int .i64 2] ?_
               with_reducible refine (spec_l1In.calls ((rd_T106 l0_1 x4_2).f3) 0 2 true _ A31.out).mono ?_
               rintro e w' ⟨rfl, ⟨nd, rfl⟩⟩
               refine ⟨_, rfl, ?_⟩
               refine hK.out _ _ ⟨(blk_cell BK143.out 0).trans rfl, (blk_cell BK143.out 1).trans rfl, (blk_cell BK143.out 2).trans rfl, (blk_cell BK143.out 3).trans rfl, (blk_cell BK147.out 0).trans rfl, (blk_cell BK147.out 1).trans rfl, (blk_cell BK147.out 2).trans rfl, (blk_cell BK147.out 3).trans rfl, (cB_ HB.out hw148_0 :), (cB_ HB.out hw150_0 :)⟩ (fun hHeld => ?_)
               clear hK K
               refine norm_ (a' := ?_) ?_ ?_
               rotate_left
               ·show Act.put _ (some 71) _ = _
                simp only [pt_, pn_, sI_, s0_, s1_, i64_w, i32_w]
                rfl
               refine pU_ 30 (some 72) (mk_ 40 2147483647) ?_
               refine pU_ 31 (some 73) (mk_ 40 4294967295) ?_
               refine pU_ 32 (some 74) (mk_ 40 8589934591) ?_
               refine pU_ 33 (some 75) (mk_ 40 17179869183) ?_
               refine pU_ 35 (some 77) (mk_ 40 51539607551) ?_
               refine tK10_ 34 (some 76) (mk_ 40 68719476735) ?_
               refine tK10_ 36 (some 78) (mk_ 40 137438953471) ?_
               refine oN_ 37 (some 79) (mk_ 40 274877906943) (fun K hK => ?_)
               refine gO_ Try.func58 #[.agg #[.slice A0_2 l0_2.length c0_2], .slice A146_2 ((rd_T106 l0_1 x4_2).f2).length c146_2] ?_
               with_reducible refine (spec_ViewOk.calls k2 _ _ l0_2 _ _ ((rd_T106 l0_1 x4_2).f2) t153 _ ?side1 ?side2 ?side3 ?side4 A33.out).mono ?_
               (case side1 => exact cS_ (Kd.C_below HR0_2.out (by repeat (first | (with_reducible first | exact HB.out | apply hA_ | apply hN_ | apply hD_ | refine below_set ?_ GE143.out | refine below_set ?_ GE147.out) | exact HB.out))))
               (case side2 => exact HC0_2.out)
               (case side3 => exact cS_ (Kd.C_below HR146_2.out (by repeat (first | (with_reducible first | exact HB.out | apply hA_ | apply hN_ | apply hD_ | refine below_set ?_ GE143.out | refine below_set ?_ GE147.out) | exact HB.out))))
               (case side4 => exact HC146_2.out)
               rintro e w37 ⟨rfl, hb⟩
               refine ⟨_, rfl, ?_⟩
               have n0 := aM_ (nB_ BK143.out hb)
               have n1 := aM_ (nB_ BK147.out hb)
               have n2 := aM_ (sT_ HB.out hb)
               clear BK143
               clear BK147
               clear HB
               have BK143 := n0
               have BK147 := n1
               have HB := n2
               clear n0 n1 n2
               (try clear hb)
               (try clear hb2)
               (try clear hk)
               (try clear hi)
               refine hK.out _ _ ⟨(blk_cell BK143.out 0).trans rfl, (blk_cell BK143.out 1).trans rfl, (blk_cell BK143.out 2).trans rfl, (blk_cell BK143.out 3).trans rfl, (blk_cell BK147.out 0).trans rfl, (blk_cell BK147.out 1).trans rfl, (blk_cell BK147.out 2).trans rfl, (blk_cell BK147.out 3).trans rfl, (cB_ HB.out hw148_0 :), (cB_ HB.out hw150_0 :)⟩ (fun hHeld => ?_)
               clear hK K
               refine norm_ (a' := ?_) ?_ ?_
               rotate_left
               ·show Act.put _ (some 79) _ = _
                simp only [pt_, pn_, sI_, s0_, s1_, i64_w, i32_w]
                rfl
               refine pU_ 38 (some 80) (mk_ 40 549755813887) ?_
               refine pU_ 39 (some 81) (mk_ 40 1099511627775) ?_
               refine done_ (done_of HT_.out (by kernel_rfl)) ?_
               try go_wp2
               go_meet
               case rel => exact ⟨_, (!t153), (by first | rfl | (simp; done) | (simp [*]; done)), H', ⟨by have := HJ1.out; have := HK2.out; first | omega | exact Nat.le_refl _⟩, ⟨rW_ BK143.out⟩, ⟨rW_ BK147.out⟩, ⟨gW_ HB.out⟩⟩
              ·replace c32 := Bool.eq_false_iff.mpr c32
               subst c32
               have H1 : (spec_MachineOk.j2 k2 (l0_0.length : Int) x4_2 true l0_0 l0_1 l0_2 l0_3) = some r := by rw [if_neg (show ¬ (false = true) by decide)] at H; exact H
               clear H
               have H := H1
               clear H1
               have H' := aM_ H
               clear H
               try go_wp2
               have n0 : Aside0 (((((w22.setCell ⟨gb147, 0, none⟩ (.int .i64 ((rd_T106 l0_1 x4_2).f0))).setCell ⟨gb147, 1, none⟩ (.slice A146_1 ((rd_T106 l0_1 x4_2).f1).length c146_1)).setCell ⟨gb147, 2, none⟩ (.slice A146_2 ((rd_T106 l0_1 x4_2).f2).length c146_2)).setCell ⟨gb147, 3, none⟩ (.int .i64 ((rd_T106 l0_1 x4_2).f3))).heap[gb143]? = some (.cells #[.slice A0_0 l0_0.length c0_0, .slice (some ad146) l0_1.length c0_1, .slice A0_2 l0_2.length c0_2, .slice A0_3 l0_3.length c0_3] 69 (0, 0))) := ⟨by (with_reducible repeat (first | refine bN_ ?_ _ | refine bD_ ?_ | refine bA_ ?_ _)); refine blk_far ?_ NB143_147.out _; (with_reducible repeat (first | refine bN_ ?_ _ | refine bD_ ?_ | refine bA_ ?_ _)); refine blk_far ?_ NB143_147.out _; (with_reducible repeat (first | refine bN_ ?_ _ | refine bD_ ?_ | refine bA_ ?_ _)); refine blk_far ?_ NB143_147.out _; (with_reducible repeat (first | refine bN_ ?_ _ | refine bD_ ?_ | refine bA_ ?_ _)); refine blk_far ?_ NB143_147.out _; (with_reducible repeat (first | refine bN_ ?_ _ | refine bD_ ?_ | refine bA_ ?_ _)); exact BK143.out⟩
               have n1 : Aside0 (((((w22.setCell ⟨gb147, 0, none⟩ (.int .i64 ((rd_T106 l0_1 x4_2).f0))).setCell ⟨gb147, 1, none⟩ (.slice A146_1 ((rd_T106 l0_1 x4_2).f1).length c146_1)).setCell ⟨gb147, 2, none⟩ (.slice A146_2 ((rd_T106 l0_1 x4_2).f2).length c146_2)).setCell ⟨gb147, 3, none⟩ (.int .i64 ((rd_T106 l0_1 x4_2).f3))).heap[gb147]? = some (.cells #[.int .i64 ((rd_T106 l0_1 x4_2).f0), .slice A146_1 ((rd_T106 l0_1 x4_2).f1).length c146_1, .slice A146_2 ((rd_T106 l0_1 x4_2).f2).length c146_2, .int .i64 ((rd_T106 l0_1 x4_2).f3)] 106 (0, 0))) := ⟨by (with_reducible repeat (first | refine bN_ ?_ _ | refine bD_ ?_ | refine bA_ ?_ _)); refine blk_put (cs := #[.int .i64 ((rd_T106 l0_1 x4_2).f0), .slice A146_1 ((rd_T106 l0_1 x4_2).f1).length c146_1, .slice A146_2 ((rd_T106 l0_1 x4_2).f2).length c146_2, .int .i64 0]) ?_ 3 _ rfl; (with_reducible repeat (first | refine bN_ ?_ _ | refine bD_ ?_ | refine bA_ ?_ _)); refine blk_put (cs := #[.int .i64 ((rd_T106 l0_1 x4_2).f0), .slice A146_1 ((rd_T106 l0_1 x4_2).f1).length c146_1, .slice none 0 0, .int .i64 0]) ?_ 2 _ rfl; (with_reducible repeat (first | refine bN_ ?_ _ | refine bD_ ?_ | refine bA_ ?_ _)); refine blk_put (cs := #[.int .i64 ((rd_T106 l0_1 x4_2).f0), .slice none 0 0, .slice none 0 0, .int .i64 0]) ?_ 1 _ rfl; (with_reducible repeat (first | refine bN_ ?_ _ | refine bD_ ?_ | refine bA_ ?_ _)); refine blk_put (cs := #[.int .i64 0, .slice none 0 0, .slice none 0 0, .int .i64 0]) ?_ 0 _ rfl; (with_reducible repeat (first | refine bN_ ?_ _ | refine bD_ ?_ | refine bA_ ?_ _)); exact BK147.out⟩
               have n2 : Aside0 (Below w.heap.size w ((((w22.setCell ⟨gb147, 0, none⟩ (.int .i64 ((rd_T106 l0_1 x4_2).f0))).setCell ⟨gb147, 1, none⟩ (.slice A146_1 ((rd_T106 l0_1 x4_2).f1).length c146_1)).setCell ⟨gb147, 2, none⟩ (.slice A146_2 ((rd_T106 l0_1 x4_2).f2).length c146_2)).setCell ⟨gb147, 3, none⟩ (.int .i64 ((rd_T106 l0_1 x4_2).f3)))) := ⟨gW_ HB.out⟩
               (try clear BK143)
               (try clear BK147)
               (try clear HB)
               generalize ((((w22.setCell ⟨gb147, 0, none⟩ (.int .i64 ((rd_T106 l0_1 x4_2).f0))).setCell ⟨gb147, 1, none⟩ (.slice A146_1 ((rd_T106 l0_1 x4_2).f1).length c146_1)).setCell ⟨gb147, 2, none⟩ (.slice A146_2 ((rd_T106 l0_1 x4_2).f2).length c146_2)).setCell ⟨gb147, 3, none⟩ (.int .i64 ((rd_T106 l0_1 x4_2).f3))) = w38 at n0 n1 n2 ⊢
               have BK143 := n0
               have BK147 := n1
               have HB := n2
               clear n0 n1 n2
               have n0 := aM_ (blk_drew BK143.out)
               have n1 := aM_ (blk_drew BK147.out)
               have n2 := aM_ (below_drew1 HB.out)
               clear BK143
               clear BK147
               clear HB
               have BK143 := n0
               have BK147 := n1
               have HB := n2
               clear n0 n1 n2
               have p148 : 0 ≤ (x4_2 : Int) := of_decide_eq_true (by first | (with_reducible assumption) | assumption)
               have q148 : x4_2 < (l0_0.length : Int) := of_decide_eq_true (by first | (with_reducible assumption) | assumption)
               obtain ⟨ad148, A148_0, c148_0, e148, hx148_0, hl148_0, hi148_0⟩ := at_L12 HR0_0.out x4_2 p148 q148
               have hw148_0 := hx148_0
               cases e148
               replace hx148_0 := cB_ HB.out hx148_0
               have HR148_0 := aM_ hi148_0
               have HC148_0 := aM_ hl148_0
               clear hi148_0 hl148_0
               replace p148 := eq_true p148
               replace q148 := eq_true q148
               have p150 : 0 ≤ (x4_2 : Int) := of_decide_eq_true (by first | (with_reducible assumption) | assumption)
               have q150 : x4_2 < (l0_0.length : Int) := of_decide_eq_true (by first | (with_reducible assumption) | assumption)
               obtain ⟨ad150, A150_0, c150_0, e150, hx150_0, hl150_0, hi150_0⟩ := at_L12 HR0_0.out x4_2 p150 q150
               have hw150_0 := hx150_0
               obtain rfl : ad148 = ad150 := (by injection e150)
               replace hx150_0 := cB_ HB.out hx150_0
               have HR150_0 := aM_ hi150_0
               have HC150_0 := aM_ hl150_0
               clear hi150_0 hl150_0
               replace p150 := eq_true p150
               replace q150 := eq_true q150
               refine start_ (n := 40) (S := fun w' => w'.cell? ⟨gb143, 0, none⟩ = some (.slice (some ad148) l0_0.length c0_0) ∧ w'.cell? ⟨gb143, 1, none⟩ = some (.slice (some ad146) l0_1.length c0_1) ∧ w'.cell? ⟨gb143, 2, none⟩ = some (.slice A0_2 l0_2.length c0_2) ∧ w'.cell? ⟨gb143, 3, none⟩ = some (.slice A0_3 l0_3.length c0_3) ∧ w'.cell? ⟨gb147, 0, none⟩ = some (.int .i64 ((rd_T106 l0_1 x4_2).f0)) ∧ w'.cell? ⟨gb147, 1, none⟩ = some (.slice A146_1 ((rd_T106 l0_1 x4_2).f1).length c146_1) ∧ w'.cell? ⟨gb147, 2, none⟩ = some (.slice A146_2 ((rd_T106 l0_1 x4_2).f2).length c146_2) ∧ w'.cell? ⟨gb147, 3, none⟩ = some (.int .i64 ((rd_T106 l0_1 x4_2).f3)) ∧ w'.cell? (ad148.add (x4_2).toNat) = some (.slice A148_0 (rd_L12 l0_0 x4_2).length c148_0) ∧ w'.cell? (ad148.add (x4_2).toNat) = some (.slice A150_0 (rd_L12 l0_0 x4_2).length c150_0)) (ds := []) (mk_ 40 0) (by kernel_rfl) rfl rfl ⟨(blk_cell BK143.out 0).trans rfl, (blk_cell BK143.out 1).trans rfl, (blk_cell BK143.out 2).trans rfl, (blk_cell BK143.out 3).trans rfl, (blk_cell BK147.out 0).trans rfl, (blk_cell BK147.out 1).trans rfl, (blk_cell BK147.out 2).trans rfl, (blk_cell BK147.out 3).trans rfl, (cB_ HB.out hw148_0 :), (cB_ HB.out hw150_0 :)⟩ (fun hHeld => ?_); refine with_tabW spec_MachineOk.tab8 spec_MachineOk.bits8 (fun HT_ HW_ => ?_)
               generalize w38.drew = w39 at BK143 BK147 HB HR148_0 HR150_0 hx148_0 hx150_0 hHeld ⊢
               refine pU_ 0 (some 42) (mk_ 40 1) ?_
               refine pU_ 2 (some 44) (mk_ 40 5) ?_
               refine tK10_ 1 (some 43) (mk_ 40 7) ?_
               refine pU_ 3 (some 45) (mk_ 40 15) ?_
               refine tK10_ 4 (some 46) (mk_ 40 31) ?_
               refine oN_ 5 (some 47) (mk_ 40 63) (fun K hK => ?_)
               refine gO_ Try.func57 #[.slice A148_0 (rd_L12 l0_0 x4_2).length c148_0] ?_
               with_reducible refine (spec_CodeOk.calls k2 _ _ (rd_L12 l0_0 x4_2) true _ ?side1 ?side2 A26.out).mono ?_
               (case side1 => exact cS_ (Kd.C_below HR148_0.out HB.out))
               (case side2 => exact HC148_0.out)
               rintro e w40 ⟨rfl, hb⟩
               refine ⟨_, rfl, ?_⟩
               have n0 := aM_ (nB_ BK143.out hb)
               have n1 := aM_ (nB_ BK147.out hb)
               have n2 := aM_ (sT_ HB.out hb)
               clear BK143
               clear BK147
               clear HB
               have BK143 := n0
               have BK147 := n1
               have HB := n2
               clear n0 n1 n2
               (try clear hb)
               (try clear hb2)
               (try clear hk)
               (try clear hi)
               refine hK.out _ _ ⟨(blk_cell BK143.out 0).trans rfl, (blk_cell BK143.out 1).trans rfl, (blk_cell BK143.out 2).trans rfl, (blk_cell BK143.out 3).trans rfl, (blk_cell BK147.out 0).trans rfl, (blk_cell BK147.out 1).trans rfl, (blk_cell BK147.out 2).trans rfl, (blk_cell BK147.out 3).trans rfl, (cB_ HB.out hw148_0 :), (cB_ HB.out hw150_0 :)⟩ (fun hHeld => ?_)
               clear hK K
               refine norm_ (a' := ?_) ?_ ?_
               rotate_left
               ·show Act.put _ (some 47) _ = _
                simp only [pt_, pn_, sI_, s0_, s1_, i64_w, i32_w]
                rfl
               refine pU_ 6 (some 48) (mk_ 40 127) ?_
               refine pU_ 7 (some 49) (mk_ 40 255) ?_
               refine pU_ 8 (some 50) (mk_ 40 511) ?_
               refine tK10_ 9 (some 51) (mk_ 40 1023) ?_
               refine pU_ 10 (some 52) (mk_ 40 2047) ?_
               refine pU_ 11 (some 53) (mk_ 40 4095) ?_
               refine pU_ 12 (some 54) (mk_ 40 8191) ?_
               refine pU_ 13 (some 55) (mk_ 40 16383) ?_
               refine pU_ 14 (some 56) (mk_ 40 32767) ?_
               refine pU_ 16 (some 58) (mk_ 40 98303) ?_
               refine pU_ 18 (some 60) (mk_ 40 360447) ?_
               refine tK10_ 15 (some 57) (mk_ 40 393215) ?_
               refine tK10_ 17 (some 59) (mk_ 40 524287) ?_
               refine pU_ 19 (some 61) (mk_ 40 1048575) ?_
               refine tK10_ 20 (some 62) (mk_ 40 2097151) ?_
               refine pU_ 21 (some 63) (mk_ 40 4194303) ?_
               refine pU_ 22 (some 64) (mk_ 40 8388607) ?_
               refine oN_ 23 (some 65) (mk_ 40 16777215) (fun K hK => ?_)
               refine gO_ Try.func41 #[.int .i64 ((rd_T106 l0_1 x4_2).f0), .int .i64 0, .int .i64 (wrap64 (((rd_L12 l0_0 x4_2).length : Int) - 1))] ?_
               with_reducible refine (spec_l1In.calls ((rd_T106 l0_1 x4_2).f0) 0 (wrap64 (((rd_L12 l0_0 x4_2).length : Int) - 1)) true _ A29.out).mono ?_
               rintro e w' ⟨rfl, ⟨nd, rfl⟩⟩
               refine ⟨_, rfl, ?_⟩
               refine hK.out _ _ ⟨(blk_cell BK143.out 0).trans rfl, (blk_cell BK143.out 1).trans rfl, (blk_cell BK143.out 2).trans rfl, (blk_cell BK143.out 3).trans rfl, (blk_cell BK147.out 0).trans rfl, (blk_cell BK147.out 1).trans rfl, (blk_cell BK147.out 2).trans rfl, (blk_cell BK147.out 3).trans rfl, (cB_ HB.out hw148_0 :), (cB_ HB.out hw150_0 :)⟩ (fun hHeld => ?_)
               clear hK K
               refine norm_ (a' := ?_) ?_ ?_
               rotate_left
               ·show Act.put _ (some 65) _ = _
                simp only [pt_, pn_, sI_, s0_, s1_, i64_w, i32_w]
                rfl
               refine pU_ 24 (some 66) (mk_ 40 33554431) ?_
               refine pU_ 25 (some 67) (mk_ 40 67108863) ?_
               refine pU_ 26 (some 68) (mk_ 40 134217727) ?_
               refine pU_ 27 (some 69) (mk_ 40 268435455) ?_
               refine tK10_ 28 (some 70) (mk_ 40 536870911) ?_
               refine oN_ 29 (some 71) (mk_ 40 1073741823) (fun K hK => ?_)
               refine gO_ Try.func41 #[.int .i64 ((rd_T106 l0_1 x4_2).f3), .int .i64 0, .int .i64 2] ?_
               with_reducible refine (spec_l1In.calls ((rd_T106 l0_1 x4_2).f3) 0 2 false _ A31.out).mono ?_
               rintro e w' ⟨rfl, ⟨nd, rfl⟩⟩
               refine ⟨_, rfl, ?_⟩
               refine hK.out _ _ ⟨(blk_cell BK143.out 0).trans rfl, (blk_cell BK143.out 1).trans rfl, (blk_cell BK143.out 2).trans rfl, (blk_cell BK143.out 3).trans rfl, (blk_cell BK147.out 0).trans rfl, (blk_cell BK147.out 1).trans rfl, (blk_cell BK147.out 2).trans rfl, (blk_cell BK147.out 3).trans rfl, (cB_ HB.out hw148_0 :), (cB_ HB.out hw150_0 :)⟩ (fun hHeld => ?_)
               clear hK K
               refine norm_ (a' := ?_) ?_ ?_
               rotate_left
               ·show Act.put _ (some 71) _ = _
                simp only [pt_, pn_, sI_, s0_, s1_, i64_w, i32_w]
                rfl
               refine pU_ 30 (some 72) (mk_ 40 2147483647) ?_
               refine pU_ 31 (some 73) (mk_ 40 4294967295) ?_
               refine pU_ 32 (some 74) (mk_ 40 8589934591) ?_
               refine pX_ 33 (some 75) (mk_ 40 17179869183) ?_
               refine pX_ 34 (some 76) (mk_ 40 34359738367) ?_
               refine pX_ 35 (some 77) (mk_ 40 68719476735) ?_
               refine pX_ 36 (some 78) (mk_ 40 137438953471) ?_
               refine pX_ 37 (some 79) (mk_ 40 274877906943) ?_
               refine pX_ 38 (some 80) (mk_ 40 549755813887) ?_
               refine pU_ 39 (some 81) (mk_ 40 1099511627775) ?_
               refine done_ (done_of HT_.out (by kernel_rfl)) ?_
               try go_wp2
               go_meet
               case rel => exact ⟨_, (true), (by first | rfl | (simp; done) | (simp [*]; done)), H', ⟨by have := HJ1.out; have := HK2.out; first | omega | exact Nat.le_refl _⟩, ⟨rW_ BK143.out⟩, ⟨rW_ BK147.out⟩, ⟨gW_ HB.out⟩⟩
             ·replace c30 := Bool.eq_false_iff.mpr c30
              subst c30
              have H1 : (spec_MachineOk.j2 k2 (l0_0.length : Int) x4_2 true l0_0 l0_1 l0_2 l0_3) = some r := by rw [if_neg (show ¬ (false = true) by decide)] at H; exact H
              clear H
              have H := H1
              clear H1
              have H' := aM_ H
              clear H
              try go_wp2
              have n0 : Aside0 (((((w22.setCell ⟨gb147, 0, none⟩ (.int .i64 ((rd_T106 l0_1 x4_2).f0))).setCell ⟨gb147, 1, none⟩ (.slice A146_1 ((rd_T106 l0_1 x4_2).f1).length c146_1)).setCell ⟨gb147, 2, none⟩ (.slice A146_2 ((rd_T106 l0_1 x4_2).f2).length c146_2)).setCell ⟨gb147, 3, none⟩ (.int .i64 ((rd_T106 l0_1 x4_2).f3))).heap[gb143]? = some (.cells #[.slice A0_0 l0_0.length c0_0, .slice (some ad146) l0_1.length c0_1, .slice A0_2 l0_2.length c0_2, .slice A0_3 l0_3.length c0_3] 69 (0, 0))) := ⟨by (with_reducible repeat (first | refine bN_ ?_ _ | refine bD_ ?_ | refine bA_ ?_ _)); refine blk_far ?_ NB143_147.out _; (with_reducible repeat (first | refine bN_ ?_ _ | refine bD_ ?_ | refine bA_ ?_ _)); refine blk_far ?_ NB143_147.out _; (with_reducible repeat (first | refine bN_ ?_ _ | refine bD_ ?_ | refine bA_ ?_ _)); refine blk_far ?_ NB143_147.out _; (with_reducible repeat (first | refine bN_ ?_ _ | refine bD_ ?_ | refine bA_ ?_ _)); refine blk_far ?_ NB143_147.out _; (with_reducible repeat (first | refine bN_ ?_ _ | refine bD_ ?_ | refine bA_ ?_ _)); exact BK143.out⟩
              have n1 : Aside0 (((((w22.setCell ⟨gb147, 0, none⟩ (.int .i64 ((rd_T106 l0_1 x4_2).f0))).setCell ⟨gb147, 1, none⟩ (.slice A146_1 ((rd_T106 l0_1 x4_2).f1).length c146_1)).setCell ⟨gb147, 2, none⟩ (.slice A146_2 ((rd_T106 l0_1 x4_2).f2).length c146_2)).setCell ⟨gb147, 3, none⟩ (.int .i64 ((rd_T106 l0_1 x4_2).f3))).heap[gb147]? = some (.cells #[.int .i64 ((rd_T106 l0_1 x4_2).f0), .slice A146_1 ((rd_T106 l0_1 x4_2).f1).length c146_1, .slice A146_2 ((rd_T106 l0_1 x4_2).f2).length c146_2, .int .i64 ((rd_T106 l0_1 x4_2).f3)] 106 (0, 0))) := ⟨by (with_reducible repeat (first | refine bN_ ?_ _ | refine bD_ ?_ | refine bA_ ?_ _)); refine blk_put (cs := #[.int .i64 ((rd_T106 l0_1 x4_2).f0), .slice A146_1 ((rd_T106 l0_1 x4_2).f1).length c146_1, .slice A146_2 ((rd_T106 l0_1 x4_2).f2).length c146_2, .int .i64 0]) ?_ 3 _ rfl; (with_reducible repeat (first | refine bN_ ?_ _ | refine bD_ ?_ | refine bA_ ?_ _)); refine blk_put (cs := #[.int .i64 ((rd_T106 l0_1 x4_2).f0), .slice A146_1 ((rd_T106 l0_1 x4_2).f1).length c146_1, .slice none 0 0, .int .i64 0]) ?_ 2 _ rfl; (with_reducible repeat (first | refine bN_ ?_ _ | refine bD_ ?_ | refine bA_ ?_ _)); refine blk_put (cs := #[.int .i64 ((rd_T106 l0_1 x4_2).f0), .slice none 0 0, .slice none 0 0, .int .i64 0]) ?_ 1 _ rfl; (with_reducible repeat (first | refine bN_ ?_ _ | refine bD_ ?_ | refine bA_ ?_ _)); refine blk_put (cs := #[.int .i64 0, .slice none 0 0, .slice none 0 0, .int .i64 0]) ?_ 0 _ rfl; (with_reducible repeat (first | refine bN_ ?_ _ | refine bD_ ?_ | refine bA_ ?_ _)); exact BK147.out⟩
              have n2 : Aside0 (Below w.heap.size w ((((w22.setCell ⟨gb147, 0, none⟩ (.int .i64 ((rd_T106 l0_1 x4_2).f0))).setCell ⟨gb147, 1, none⟩ (.slice A146_1 ((rd_T106 l0_1 x4_2).f1).length c146_1)).setCell ⟨gb147, 2, none⟩ (.slice A146_2 ((rd_T106 l0_1 x4_2).f2).length c146_2)).setCell ⟨gb147, 3, none⟩ (.int .i64 ((rd_T106 l0_1 x4_2).f3)))) := ⟨gW_ HB.out⟩
              (try clear BK143)
              (try clear BK147)
              (try clear HB)
              generalize ((((w22.setCell ⟨gb147, 0, none⟩ (.int .i64 ((rd_T106 l0_1 x4_2).f0))).setCell ⟨gb147, 1, none⟩ (.slice A146_1 ((rd_T106 l0_1 x4_2).f1).length c146_1)).setCell ⟨gb147, 2, none⟩ (.slice A146_2 ((rd_T106 l0_1 x4_2).f2).length c146_2)).setCell ⟨gb147, 3, none⟩ (.int .i64 ((rd_T106 l0_1 x4_2).f3))) = w41 at n0 n1 n2 ⊢
              have BK143 := n0
              have BK147 := n1
              have HB := n2
              clear n0 n1 n2
              have n0 := aM_ (blk_drew BK143.out)
              have n1 := aM_ (blk_drew BK147.out)
              have n2 := aM_ (below_drew1 HB.out)
              clear BK143
              clear BK147
              clear HB
              have BK143 := n0
              have BK147 := n1
              have HB := n2
              clear n0 n1 n2
              have p148 : 0 ≤ (x4_2 : Int) := of_decide_eq_true (by first | (with_reducible assumption) | assumption)
              have q148 : x4_2 < (l0_0.length : Int) := of_decide_eq_true (by first | (with_reducible assumption) | assumption)
              obtain ⟨ad148, A148_0, c148_0, e148, hx148_0, hl148_0, hi148_0⟩ := at_L12 HR0_0.out x4_2 p148 q148
              have hw148_0 := hx148_0
              cases e148
              replace hx148_0 := cB_ HB.out hx148_0
              have HR148_0 := aM_ hi148_0
              have HC148_0 := aM_ hl148_0
              clear hi148_0 hl148_0
              replace p148 := eq_true p148
              replace q148 := eq_true q148
              have p150 : 0 ≤ (x4_2 : Int) := of_decide_eq_true (by first | (with_reducible assumption) | assumption)
              have q150 : x4_2 < (l0_0.length : Int) := of_decide_eq_true (by first | (with_reducible assumption) | assumption)
              obtain ⟨ad150, A150_0, c150_0, e150, hx150_0, hl150_0, hi150_0⟩ := at_L12 HR0_0.out x4_2 p150 q150
              have hw150_0 := hx150_0
              obtain rfl : ad148 = ad150 := (by injection e150)
              replace hx150_0 := cB_ HB.out hx150_0
              have HR150_0 := aM_ hi150_0
              have HC150_0 := aM_ hl150_0
              clear hi150_0 hl150_0
              replace p150 := eq_true p150
              replace q150 := eq_true q150
              refine start_ (n := 40) (S := fun w' => w'.cell? ⟨gb143, 0, none⟩ = some (.slice (some ad148) l0_0.length c0_0) ∧ w'.cell? ⟨gb143, 1, none⟩ = some (.slice (some ad146) l0_1.length c0_1) ∧ w'.cell? ⟨gb143, 2, none⟩ = some (.slice A0_2 l0_2.length c0_2) ∧ w'.cell? ⟨gb143, 3, none⟩ = some (.slice A0_3 l0_3.length c0_3) ∧ w'.cell? ⟨gb147, 0, none⟩ = some (.int .i64 ((rd_T106 l0_1 x4_2).f0)) ∧ w'.cell? ⟨gb147, 1, none⟩ = some (.slice A146_1 ((rd_T106 l0_1 x4_2).f1).length c146_1) ∧ w'.cell? ⟨gb147, 2, none⟩ = some (.slice A146_2 ((rd_T106 l0_1 x4_2).f2).length c146_2) ∧ w'.cell? ⟨gb147, 3, none⟩ = some (.int .i64 ((rd_T106 l0_1 x4_2).f3)) ∧ w'.cell? (ad148.add (x4_2).toNat) = some (.slice A148_0 (rd_L12 l0_0 x4_2).length c148_0) ∧ w'.cell? (ad148.add (x4_2).toNat) = some (.slice A150_0 (rd_L12 l0_0 x4_2).length c150_0)) (ds := []) (mk_ 40 0) (by kernel_rfl) rfl rfl ⟨(blk_cell BK143.out 0).trans rfl, (blk_cell BK143.out 1).trans rfl, (blk_cell BK143.out 2).trans rfl, (blk_cell BK143.out 3).trans rfl, (blk_cell BK147.out 0).trans rfl, (blk_cell BK147.out 1).trans rfl, (blk_cell BK147.out 2).trans rfl, (blk_cell BK147.out 3).trans rfl, (cB_ HB.out hw148_0 :), (cB_ HB.out hw150_0 :)⟩ (fun hHeld => ?_); refine with_tabW spec_MachineOk.tab8 spec_MachineOk.bits8 (fun HT_ HW_ => ?_)
              generalize w41.drew = w42 at BK143 BK147 HB HR148_0 HR150_0 hx148_0 hx150_0 hHeld ⊢
              refine pU_ 0 (some 42) (mk_ 40 1) ?_
              refine pU_ 2 (some 44) (mk_ 40 5) ?_
              refine tK10_ 1 (some 43) (mk_ 40 7) ?_
              refine pU_ 3 (some 45) (mk_ 40 15) ?_
              refine tK10_ 4 (some 46) (mk_ 40 31) ?_
              refine oN_ 5 (some 47) (mk_ 40 63) (fun K hK => ?_)
              refine gO_ Try.func57 #[.slice A148_0 (rd_L12 l0_0 x4_2).length c148_0] ?_
              with_reducible refine (spec_CodeOk.calls k2 _ _ (rd_L12 l0_0 x4_2) true _ ?side1 ?side2 A26.out).mono ?_
              (case side1 => exact cS_ (Kd.C_below HR148_0.out HB.out))
              (case side2 => exact HC148_0.out)
              rintro e w43 ⟨rfl, hb⟩
              refine ⟨_, rfl, ?_⟩
              have n0 := aM_ (nB_ BK143.out hb)
              have n1 := aM_ (nB_ BK147.out hb)
              have n2 := aM_ (sT_ HB.out hb)
              clear BK143
              clear BK147
              clear HB
              have BK143 := n0
              have BK147 := n1
              have HB := n2
              clear n0 n1 n2
              (try clear hb)
              (try clear hb2)
              (try clear hk)
              (try clear hi)
              refine hK.out _ _ ⟨(blk_cell BK143.out 0).trans rfl, (blk_cell BK143.out 1).trans rfl, (blk_cell BK143.out 2).trans rfl, (blk_cell BK143.out 3).trans rfl, (blk_cell BK147.out 0).trans rfl, (blk_cell BK147.out 1).trans rfl, (blk_cell BK147.out 2).trans rfl, (blk_cell BK147.out 3).trans rfl, (cB_ HB.out hw148_0 :), (cB_ HB.out hw150_0 :)⟩ (fun hHeld => ?_)
              clear hK K
              refine norm_ (a' := ?_) ?_ ?_
              rotate_left
              ·show Act.put _ (some 47) _ = _
               simp only [pt_, pn_, sI_, s0_, s1_, i64_w, i32_w]
               rfl
              refine pU_ 6 (some 48) (mk_ 40 127) ?_
              refine pU_ 7 (some 49) (mk_ 40 255) ?_
              refine pU_ 8 (some 50) (mk_ 40 511) ?_
              refine tK10_ 9 (some 51) (mk_ 40 1023) ?_
              refine pU_ 10 (some 52) (mk_ 40 2047) ?_
              refine pU_ 11 (some 53) (mk_ 40 4095) ?_
              refine pU_ 12 (some 54) (mk_ 40 8191) ?_
              refine pU_ 13 (some 55) (mk_ 40 16383) ?_
              refine pU_ 14 (some 56) (mk_ 40 32767) ?_
              refine pU_ 16 (some 58) (mk_ 40 98303) ?_
              refine pU_ 18 (some 60) (mk_ 40 360447) ?_
              refine tK10_ 15 (some 57) (mk_ 40 393215) ?_
              refine tK10_ 17 (some 59) (mk_ 40 524287) ?_
              refine pU_ 19 (some 61) (mk_ 40 1048575) ?_
              refine tK10_ 20 (some 62) (mk_ 40 2097151) ?_
              refine pU_ 21 (some 63) (mk_ 40 4194303) ?_
              refine pU_ 22 (some 64) (mk_ 40 8388607) ?_
              refine oN_ 23 (some 65) (mk_ 40 16777215) (fun K hK => ?_)
              refine gO_ Try.func41 #[.int .i64 ((rd_T106 l0_1 x4_2).f0), .int .i64 0, .int .i64 (wrap64 (((rd_L12 l0_0 x4_2).length : Int) - 1))] ?_
              with_reducible refine (spec_l1In.calls ((rd_T106 l0_1 x4_2).f0) 0 (wrap64 (((rd_L12 l0_0 x4_2).length : Int) - 1)) false _ A29.out).mono ?_
              rintro e w' ⟨rfl, ⟨nd, rfl⟩⟩
              refine ⟨_, rfl, ?_⟩
              refine hK.out _ _ ⟨(blk_cell BK143.out 0).trans rfl, (blk_cell BK143.out 1).trans rfl, (blk_cell BK143.out 2).trans rfl, (blk_cell BK143.out 3).trans rfl, (blk_cell BK147.out 0).trans rfl, (blk_cell BK147.out 1).trans rfl, (blk_cell BK147.out 2).trans rfl, (blk_cell BK147.out 3).trans rfl, (cB_ HB.out hw148_0 :), (cB_ HB.out hw150_0 :)⟩ (fun hHeld => ?_)
              clear hK K
              refine norm_ (a' := ?_) ?_ ?_
              rotate_left
              ·show Act.put _ (some 65) _ = _
               simp only [pt_, pn_, sI_, s0_, s1_, i64_w, i32_w]
               rfl
              refine pU_ 24 (some 66) (mk_ 40 33554431) ?_
              refine pU_ 25 (some 67) (mk_ 40 67108863) ?_
              refine pU_ 26 (some 68) (mk_ 40 134217727) ?_
              refine pX_ 27 (some 69) (mk_ 40 268435455) ?_
              refine pX_ 28 (some 70) (mk_ 40 536870911) ?_
              refine pX_ 29 (some 71) (mk_ 40 1073741823) ?_
              refine pX_ 30 (some 72) (mk_ 40 2147483647) ?_
              refine pU_ 31 (some 73) (mk_ 40 4294967295) ?_
              refine pU_ 32 (some 74) (mk_ 40 8589934591) ?_
              refine pX_ 33 (some 75) (mk_ 40 17179869183) ?_
              refine pX_ 34 (some 76) (mk_ 40 34359738367) ?_
              refine pX_ 35 (some 77) (mk_ 40 68719476735) ?_
              refine pX_ 36 (some 78) (mk_ 40 137438953471) ?_
              refine pX_ 37 (some 79) (mk_ 40 274877906943) ?_
              refine pX_ 38 (some 80) (mk_ 40 549755813887) ?_
              refine pU_ 39 (some 81) (mk_ 40 1099511627775) ?_
              refine done_ (done_of HT_.out (by kernel_rfl)) ?_
              try go_wp2
              go_meet
              case rel => exact ⟨_, (true), (by first | rfl | (simp; done) | (simp [*]; done)), H', ⟨by have := HJ1.out; have := HK2.out; first | omega | exact Nat.le_refl _⟩, ⟨rW_ BK143.out⟩, ⟨rW_ BK147.out⟩, ⟨gW_ HB.out⟩⟩
            ·rw [if_neg c28] at H
             have c28b0 : ((((rd_T106 l0_1 x4_2).f1).length : Int) == 8) = false := beq_eq_false_iff_ne.mpr c28
             have c28b1 : ((((rd_T106 l0_1 x4_2).f1).length : Int) != 8) = true := bne_iff_ne.mpr c28
             have H' := aM_ H
             clear H
             try go_wp2
             have n0 : Aside0 (((((w22.setCell ⟨gb147, 0, none⟩ (.int .i64 ((rd_T106 l0_1 x4_2).f0))).setCell ⟨gb147, 1, none⟩ (.slice A146_1 ((rd_T106 l0_1 x4_2).f1).length c146_1)).setCell ⟨gb147, 2, none⟩ (.slice A146_2 ((rd_T106 l0_1 x4_2).f2).length c146_2)).setCell ⟨gb147, 3, none⟩ (.int .i64 ((rd_T106 l0_1 x4_2).f3))).heap[gb143]? = some (.cells #[.slice A0_0 l0_0.length c0_0, .slice (some ad146) l0_1.length c0_1, .slice A0_2 l0_2.length c0_2, .slice A0_3 l0_3.length c0_3] 69 (0, 0))) := ⟨by (with_reducible repeat (first | refine bN_ ?_ _ | refine bD_ ?_ | refine bA_ ?_ _)); refine blk_far ?_ NB143_147.out _; (with_reducible repeat (first | refine bN_ ?_ _ | refine bD_ ?_ | refine bA_ ?_ _)); refine blk_far ?_ NB143_147.out _; (with_reducible repeat (first | refine bN_ ?_ _ | refine bD_ ?_ | refine bA_ ?_ _)); refine blk_far ?_ NB143_147.out _; (with_reducible repeat (first | refine bN_ ?_ _ | refine bD_ ?_ | refine bA_ ?_ _)); refine blk_far ?_ NB143_147.out _; (with_reducible repeat (first | refine bN_ ?_ _ | refine bD_ ?_ | refine bA_ ?_ _)); exact BK143.out⟩
             have n1 : Aside0 (((((w22.setCell ⟨gb147, 0, none⟩ (.int .i64 ((rd_T106 l0_1 x4_2).f0))).setCell ⟨gb147, 1, none⟩ (.slice A146_1 ((rd_T106 l0_1 x4_2).f1).length c146_1)).setCell ⟨gb147, 2, none⟩ (.slice A146_2 ((rd_T106 l0_1 x4_2).f2).length c146_2)).setCell ⟨gb147, 3, none⟩ (.int .i64 ((rd_T106 l0_1 x4_2).f3))).heap[gb147]? = some (.cells #[.int .i64 ((rd_T106 l0_1 x4_2).f0), .slice A146_1 ((rd_T106 l0_1 x4_2).f1).length c146_1, .slice A146_2 ((rd_T106 l0_1 x4_2).f2).length c146_2, .int .i64 ((rd_T106 l0_1 x4_2).f3)] 106 (0, 0))) := ⟨by (with_reducible repeat (first | refine bN_ ?_ _ | refine bD_ ?_ | refine bA_ ?_ _)); refine blk_put (cs := #[.int .i64 ((rd_T106 l0_1 x4_2).f0), .slice A146_1 ((rd_T106 l0_1 x4_2).f1).length c146_1, .slice A146_2 ((rd_T106 l0_1 x4_2).f2).length c146_2, .int .i64 0]) ?_ 3 _ rfl; (with_reducible repeat (first | refine bN_ ?_ _ | refine bD_ ?_ | refine bA_ ?_ _)); refine blk_put (cs := #[.int .i64 ((rd_T106 l0_1 x4_2).f0), .slice A146_1 ((rd_T106 l0_1 x4_2).f1).length c146_1, .slice none 0 0, .int .i64 0]) ?_ 2 _ rfl; (with_reducible repeat (first | refine bN_ ?_ _ | refine bD_ ?_ | refine bA_ ?_ _)); refine blk_put (cs := #[.int .i64 ((rd_T106 l0_1 x4_2).f0), .slice none 0 0, .slice none 0 0, .int .i64 0]) ?_ 1 _ rfl; (with_reducible repeat (first | refine bN_ ?_ _ | refine bD_ ?_ | refine bA_ ?_ _)); refine blk_put (cs := #[.int .i64 0, .slice none 0 0, .slice none 0 0, .int .i64 0]) ?_ 0 _ rfl; (with_reducible repeat (first | refine bN_ ?_ _ | refine bD_ ?_ | refine bA_ ?_ _)); exact BK147.out⟩
             have n2 : Aside0 (Below w.heap.size w ((((w22.setCell ⟨gb147, 0, none⟩ (.int .i64 ((rd_T106 l0_1 x4_2).f0))).setCell ⟨gb147, 1, none⟩ (.slice A146_1 ((rd_T106 l0_1 x4_2).f1).length c146_1)).setCell ⟨gb147, 2, none⟩ (.slice A146_2 ((rd_T106 l0_1 x4_2).f2).length c146_2)).setCell ⟨gb147, 3, none⟩ (.int .i64 ((rd_T106 l0_1 x4_2).f3)))) := ⟨gW_ HB.out⟩
             (try clear BK143)
             (try clear BK147)
             (try clear HB)
             generalize ((((w22.setCell ⟨gb147, 0, none⟩ (.int .i64 ((rd_T106 l0_1 x4_2).f0))).setCell ⟨gb147, 1, none⟩ (.slice A146_1 ((rd_T106 l0_1 x4_2).f1).length c146_1)).setCell ⟨gb147, 2, none⟩ (.slice A146_2 ((rd_T106 l0_1 x4_2).f2).length c146_2)).setCell ⟨gb147, 3, none⟩ (.int .i64 ((rd_T106 l0_1 x4_2).f3))) = w44 at n0 n1 n2 ⊢
             have BK143 := n0
             have BK147 := n1
             have HB := n2
             clear n0 n1 n2
             have n0 := aM_ (blk_drew BK143.out)
             have n1 := aM_ (blk_drew BK147.out)
             have n2 := aM_ (below_drew1 HB.out)
             clear BK143
             clear BK147
             clear HB
             have BK143 := n0
             have BK147 := n1
             have HB := n2
             clear n0 n1 n2
             have p148 : 0 ≤ (x4_2 : Int) := of_decide_eq_true (by first | (with_reducible assumption) | assumption)
             have q148 : x4_2 < (l0_0.length : Int) := of_decide_eq_true (by first | (with_reducible assumption) | assumption)
             obtain ⟨ad148, A148_0, c148_0, e148, hx148_0, hl148_0, hi148_0⟩ := at_L12 HR0_0.out x4_2 p148 q148
             have hw148_0 := hx148_0
             cases e148
             replace hx148_0 := cB_ HB.out hx148_0
             have HR148_0 := aM_ hi148_0
             have HC148_0 := aM_ hl148_0
             clear hi148_0 hl148_0
             replace p148 := eq_true p148
             replace q148 := eq_true q148
             refine start_ (n := 40) (S := fun w' => w'.cell? ⟨gb143, 0, none⟩ = some (.slice (some ad148) l0_0.length c0_0) ∧ w'.cell? ⟨gb143, 1, none⟩ = some (.slice (some ad146) l0_1.length c0_1) ∧ w'.cell? ⟨gb143, 2, none⟩ = some (.slice A0_2 l0_2.length c0_2) ∧ w'.cell? ⟨gb143, 3, none⟩ = some (.slice A0_3 l0_3.length c0_3) ∧ w'.cell? ⟨gb147, 0, none⟩ = some (.int .i64 ((rd_T106 l0_1 x4_2).f0)) ∧ w'.cell? ⟨gb147, 1, none⟩ = some (.slice A146_1 ((rd_T106 l0_1 x4_2).f1).length c146_1) ∧ w'.cell? ⟨gb147, 2, none⟩ = some (.slice A146_2 ((rd_T106 l0_1 x4_2).f2).length c146_2) ∧ w'.cell? ⟨gb147, 3, none⟩ = some (.int .i64 ((rd_T106 l0_1 x4_2).f3)) ∧ w'.cell? (ad148.add (x4_2).toNat) = some (.slice A148_0 (rd_L12 l0_0 x4_2).length c148_0)) (ds := []) (mk_ 40 0) (by kernel_rfl) rfl rfl ⟨(blk_cell BK143.out 0).trans rfl, (blk_cell BK143.out 1).trans rfl, (blk_cell BK143.out 2).trans rfl, (blk_cell BK143.out 3).trans rfl, (blk_cell BK147.out 0).trans rfl, (blk_cell BK147.out 1).trans rfl, (blk_cell BK147.out 2).trans rfl, (blk_cell BK147.out 3).trans rfl, (cB_ HB.out hw148_0 :)⟩ (fun hHeld => ?_); refine with_tabW spec_MachineOk.tab8 spec_MachineOk.bits8 (fun HT_ HW_ => ?_)
             generalize w44.drew = w45 at BK143 BK147 HB HR148_0 hx148_0 hHeld ⊢
             refine pU_ 0 (some 42) (mk_ 40 1) ?_
             refine pU_ 2 (some 44) (mk_ 40 5) ?_
             refine tK9_ 1 (some 43) (mk_ 40 7) ?_
             refine pU_ 3 (some 45) (mk_ 40 15) ?_
             refine tK9_ 4 (some 46) (mk_ 40 31) ?_
             refine oN_ 5 (some 47) (mk_ 40 63) (fun K hK => ?_)
             refine gO_ Try.func57 #[.slice A148_0 (rd_L12 l0_0 x4_2).length c148_0] ?_
             with_reducible refine (spec_CodeOk.calls k2 _ _ (rd_L12 l0_0 x4_2) true _ ?side1 ?side2 A26.out).mono ?_
             (case side1 => exact cS_ (Kd.C_below HR148_0.out HB.out))
             (case side2 => exact HC148_0.out)
             rintro e w46 ⟨rfl, hb⟩
             refine ⟨_, rfl, ?_⟩
             have n0 := aM_ (nB_ BK143.out hb)
             have n1 := aM_ (nB_ BK147.out hb)
             have n2 := aM_ (sT_ HB.out hb)
             clear BK143
             clear BK147
             clear HB
             have BK143 := n0
             have BK147 := n1
             have HB := n2
             clear n0 n1 n2
             (try clear hb)
             (try clear hb2)
             (try clear hk)
             (try clear hi)
             refine hK.out _ _ ⟨(blk_cell BK143.out 0).trans rfl, (blk_cell BK143.out 1).trans rfl, (blk_cell BK143.out 2).trans rfl, (blk_cell BK143.out 3).trans rfl, (blk_cell BK147.out 0).trans rfl, (blk_cell BK147.out 1).trans rfl, (blk_cell BK147.out 2).trans rfl, (blk_cell BK147.out 3).trans rfl, (cB_ HB.out hw148_0 :)⟩ (fun hHeld => ?_)
             clear hK K
             refine norm_ (a' := ?_) ?_ ?_
             rotate_left
             ·show Act.put _ (some 47) _ = _
              simp only [pt_, pn_, sI_, s0_, s1_, i64_w, i32_w]
              rfl
             refine pU_ 6 (some 48) (mk_ 40 127) ?_
             refine pU_ 7 (some 49) (mk_ 40 255) ?_
             refine pU_ 8 (some 50) (mk_ 40 511) ?_
             refine tK9_ 9 (some 51) (mk_ 40 1023) ?_
             refine pU_ 10 (some 52) (mk_ 40 2047) ?_
             refine pU_ 11 (some 53) (mk_ 40 4095) ?_
             refine pU_ 12 (some 54) (mk_ 40 8191) ?_
             refine pU_ 13 (some 55) (mk_ 40 16383) ?_
             refine pX_ 14 (some 56) (mk_ 40 32767) ?_
             refine pX_ 15 (some 57) (mk_ 40 65535) ?_
             refine pX_ 16 (some 58) (mk_ 40 131071) ?_
             refine pX_ 17 (some 59) (mk_ 40 262143) ?_
             refine pX_ 18 (some 60) (mk_ 40 524287) ?_
             refine pX_ 19 (some 61) (mk_ 40 1048575) ?_
             refine pX_ 20 (some 62) (mk_ 40 2097151) ?_
             refine pX_ 21 (some 63) (mk_ 40 4194303) ?_
             refine pX_ 22 (some 64) (mk_ 40 8388607) ?_
             refine pX_ 23 (some 65) (mk_ 40 16777215) ?_
             refine pX_ 24 (some 66) (mk_ 40 33554431) ?_
             refine pU_ 25 (some 67) (mk_ 40 67108863) ?_
             refine pU_ 26 (some 68) (mk_ 40 134217727) ?_
             refine pX_ 27 (some 69) (mk_ 40 268435455) ?_
             refine pX_ 28 (some 70) (mk_ 40 536870911) ?_
             refine pX_ 29 (some 71) (mk_ 40 1073741823) ?_
             refine pX_ 30 (some 72) (mk_ 40 2147483647) ?_
             refine pU_ 31 (some 73) (mk_ 40 4294967295) ?_
             refine pU_ 32 (some 74) (mk_ 40 8589934591) ?_
             refine pX_ 33 (some 75) (mk_ 40 17179869183) ?_
             refine pX_ 34 (some 76) (mk_ 40 34359738367) ?_
             refine pX_ 35 (some 77) (mk_ 40 68719476735) ?_
             refine pX_ 36 (some 78) (mk_ 40 137438953471) ?_
             refine pX_ 37 (some 79) (mk_ 40 274877906943) ?_
             refine pX_ 38 (some 80) (mk_ 40 549755813887) ?_
             refine pU_ 39 (some 81) (mk_ 40 1099511627775) ?_
             refine done_ (done_of HT_.out (by kernel_rfl)) ?_
             try go_wp2
             go_meet
             case rel => exact ⟨_, (true), (by first | rfl | (simp; done) | (simp [*]; done)), H', ⟨by have := HJ1.out; have := HK2.out; first | omega | exact Nat.le_refl _⟩, ⟨rW_ BK143.out⟩, ⟨rW_ BK147.out⟩, ⟨gW_ HB.out⟩⟩
           ·replace c27 := Bool.eq_false_iff.mpr c27
            subst c27
            have H1 : (spec_MachineOk.j2 k2 (l0_0.length : Int) x4_2 true l0_0 l0_1 l0_2 l0_3) = some r := by rw [if_neg (show ¬ (false = true) by decide)] at H; exact H
            clear H
            have H := H1
            clear H1
            have H' := aM_ H
            clear H
            try go_wp2
            have n0 : Aside0 (((((w22.setCell ⟨gb147, 0, none⟩ (.int .i64 ((rd_T106 l0_1 x4_2).f0))).setCell ⟨gb147, 1, none⟩ (.slice A146_1 ((rd_T106 l0_1 x4_2).f1).length c146_1)).setCell ⟨gb147, 2, none⟩ (.slice A146_2 ((rd_T106 l0_1 x4_2).f2).length c146_2)).setCell ⟨gb147, 3, none⟩ (.int .i64 ((rd_T106 l0_1 x4_2).f3))).heap[gb143]? = some (.cells #[.slice A0_0 l0_0.length c0_0, .slice (some ad146) l0_1.length c0_1, .slice A0_2 l0_2.length c0_2, .slice A0_3 l0_3.length c0_3] 69 (0, 0))) := ⟨by (with_reducible repeat (first | refine bN_ ?_ _ | refine bD_ ?_ | refine bA_ ?_ _)); refine blk_far ?_ NB143_147.out _; (with_reducible repeat (first | refine bN_ ?_ _ | refine bD_ ?_ | refine bA_ ?_ _)); refine blk_far ?_ NB143_147.out _; (with_reducible repeat (first | refine bN_ ?_ _ | refine bD_ ?_ | refine bA_ ?_ _)); refine blk_far ?_ NB143_147.out _; (with_reducible repeat (first | refine bN_ ?_ _ | refine bD_ ?_ | refine bA_ ?_ _)); refine blk_far ?_ NB143_147.out _; (with_reducible repeat (first | refine bN_ ?_ _ | refine bD_ ?_ | refine bA_ ?_ _)); exact BK143.out⟩
            have n1 : Aside0 (((((w22.setCell ⟨gb147, 0, none⟩ (.int .i64 ((rd_T106 l0_1 x4_2).f0))).setCell ⟨gb147, 1, none⟩ (.slice A146_1 ((rd_T106 l0_1 x4_2).f1).length c146_1)).setCell ⟨gb147, 2, none⟩ (.slice A146_2 ((rd_T106 l0_1 x4_2).f2).length c146_2)).setCell ⟨gb147, 3, none⟩ (.int .i64 ((rd_T106 l0_1 x4_2).f3))).heap[gb147]? = some (.cells #[.int .i64 ((rd_T106 l0_1 x4_2).f0), .slice A146_1 ((rd_T106 l0_1 x4_2).f1).length c146_1, .slice A146_2 ((rd_T106 l0_1 x4_2).f2).length c146_2, .int .i64 ((rd_T106 l0_1 x4_2).f3)] 106 (0, 0))) := ⟨by (with_reducible repeat (first | refine bN_ ?_ _ | refine bD_ ?_ | refine bA_ ?_ _)); refine blk_put (cs := #[.int .i64 ((rd_T106 l0_1 x4_2).f0), .slice A146_1 ((rd_T106 l0_1 x4_2).f1).length c146_1, .slice A146_2 ((rd_T106 l0_1 x4_2).f2).length c146_2, .int .i64 0]) ?_ 3 _ rfl; (with_reducible repeat (first | refine bN_ ?_ _ | refine bD_ ?_ | refine bA_ ?_ _)); refine blk_put (cs := #[.int .i64 ((rd_T106 l0_1 x4_2).f0), .slice A146_1 ((rd_T106 l0_1 x4_2).f1).length c146_1, .slice none 0 0, .int .i64 0]) ?_ 2 _ rfl; (with_reducible repeat (first | refine bN_ ?_ _ | refine bD_ ?_ | refine bA_ ?_ _)); refine blk_put (cs := #[.int .i64 ((rd_T106 l0_1 x4_2).f0), .slice none 0 0, .slice none 0 0, .int .i64 0]) ?_ 1 _ rfl; (with_reducible repeat (first | refine bN_ ?_ _ | refine bD_ ?_ | refine bA_ ?_ _)); refine blk_put (cs := #[.int .i64 0, .slice none 0 0, .slice none 0 0, .int .i64 0]) ?_ 0 _ rfl; (with_reducible repeat (first | refine bN_ ?_ _ | refine bD_ ?_ | refine bA_ ?_ _)); exact BK147.out⟩
            have n2 : Aside0 (Below w.heap.size w ((((w22.setCell ⟨gb147, 0, none⟩ (.int .i64 ((rd_T106 l0_1 x4_2).f0))).setCell ⟨gb147, 1, none⟩ (.slice A146_1 ((rd_T106 l0_1 x4_2).f1).length c146_1)).setCell ⟨gb147, 2, none⟩ (.slice A146_2 ((rd_T106 l0_1 x4_2).f2).length c146_2)).setCell ⟨gb147, 3, none⟩ (.int .i64 ((rd_T106 l0_1 x4_2).f3)))) := ⟨gW_ HB.out⟩
            (try clear BK143)
            (try clear BK147)
            (try clear HB)
            generalize ((((w22.setCell ⟨gb147, 0, none⟩ (.int .i64 ((rd_T106 l0_1 x4_2).f0))).setCell ⟨gb147, 1, none⟩ (.slice A146_1 ((rd_T106 l0_1 x4_2).f1).length c146_1)).setCell ⟨gb147, 2, none⟩ (.slice A146_2 ((rd_T106 l0_1 x4_2).f2).length c146_2)).setCell ⟨gb147, 3, none⟩ (.int .i64 ((rd_T106 l0_1 x4_2).f3))) = w47 at n0 n1 n2 ⊢
            have BK143 := n0
            have BK147 := n1
            have HB := n2
            clear n0 n1 n2
            have n0 := aM_ (blk_drew BK143.out)
            have n1 := aM_ (blk_drew BK147.out)
            have n2 := aM_ (below_drew1 HB.out)
            clear BK143
            clear BK147
            clear HB
            have BK143 := n0
            have BK147 := n1
            have HB := n2
            clear n0 n1 n2
            have p148 : 0 ≤ (x4_2 : Int) := of_decide_eq_true (by first | (with_reducible assumption) | assumption)
            have q148 : x4_2 < (l0_0.length : Int) := of_decide_eq_true (by first | (with_reducible assumption) | assumption)
            obtain ⟨ad148, A148_0, c148_0, e148, hx148_0, hl148_0, hi148_0⟩ := at_L12 HR0_0.out x4_2 p148 q148
            have hw148_0 := hx148_0
            cases e148
            replace hx148_0 := cB_ HB.out hx148_0
            have HR148_0 := aM_ hi148_0
            have HC148_0 := aM_ hl148_0
            clear hi148_0 hl148_0
            replace p148 := eq_true p148
            replace q148 := eq_true q148
            refine start_ (n := 40) (S := fun w' => w'.cell? ⟨gb143, 0, none⟩ = some (.slice (some ad148) l0_0.length c0_0) ∧ w'.cell? ⟨gb143, 1, none⟩ = some (.slice (some ad146) l0_1.length c0_1) ∧ w'.cell? ⟨gb143, 2, none⟩ = some (.slice A0_2 l0_2.length c0_2) ∧ w'.cell? ⟨gb143, 3, none⟩ = some (.slice A0_3 l0_3.length c0_3) ∧ w'.cell? (ad148.add (x4_2).toNat) = some (.slice A148_0 (rd_L12 l0_0 x4_2).length c148_0)) (ds := []) (mk_ 40 0) (by kernel_rfl) rfl rfl ⟨(blk_cell BK143.out 0).trans rfl, (blk_cell BK143.out 1).trans rfl, (blk_cell BK143.out 2).trans rfl, (blk_cell BK143.out 3).trans rfl, (cB_ HB.out hw148_0 :)⟩ (fun hHeld => ?_); refine with_tabW spec_MachineOk.tab8 spec_MachineOk.bits8 (fun HT_ HW_ => ?_)
            generalize w47.drew = w48 at BK143 BK147 HB HR148_0 hx148_0 hHeld ⊢
            refine pU_ 0 (some 42) (mk_ 40 1) ?_
            refine pU_ 2 (some 44) (mk_ 40 5) ?_
            refine tK5_ 1 (some 43) (mk_ 40 7) ?_
            refine pU_ 3 (some 45) (mk_ 40 15) ?_
            refine tK5_ 4 (some 46) (mk_ 40 31) ?_
            refine oN_ 5 (some 47) (mk_ 40 63) (fun K hK => ?_)
            refine gO_ Try.func57 #[.slice A148_0 (rd_L12 l0_0 x4_2).length c148_0] ?_
            with_reducible refine (spec_CodeOk.calls k2 _ _ (rd_L12 l0_0 x4_2) false _ ?side1 ?side2 A26.out).mono ?_
            (case side1 => exact cS_ (Kd.C_below HR148_0.out HB.out))
            (case side2 => exact HC148_0.out)
            rintro e w49 ⟨rfl, hb⟩
            refine ⟨_, rfl, ?_⟩
            have n0 := aM_ (nB_ BK143.out hb)
            have n1 := aM_ (nB_ BK147.out hb)
            have n2 := aM_ (sT_ HB.out hb)
            clear BK143
            clear BK147
            clear HB
            have BK143 := n0
            have BK147 := n1
            have HB := n2
            clear n0 n1 n2
            (try clear hb)
            (try clear hb2)
            (try clear hk)
            (try clear hi)
            refine hK.out _ _ ⟨(blk_cell BK143.out 0).trans rfl, (blk_cell BK143.out 1).trans rfl, (blk_cell BK143.out 2).trans rfl, (blk_cell BK143.out 3).trans rfl, (cB_ HB.out hw148_0 :)⟩ (fun hHeld => ?_)
            clear hK K
            refine norm_ (a' := ?_) ?_ ?_
            rotate_left
            ·show Act.put _ (some 47) _ = _
             simp only [pt_, pn_, sI_, s0_, s1_, i64_w, i32_w]
             rfl
            refine pU_ 6 (some 48) (mk_ 40 127) ?_
            refine pU_ 7 (some 49) (mk_ 40 255) ?_
            refine pX_ 8 (some 50) (mk_ 40 511) ?_
            refine pX_ 9 (some 51) (mk_ 40 1023) ?_
            refine pX_ 10 (some 52) (mk_ 40 2047) ?_
            refine pX_ 11 (some 53) (mk_ 40 4095) ?_
            refine pU_ 12 (some 54) (mk_ 40 8191) ?_
            refine pU_ 13 (some 55) (mk_ 40 16383) ?_
            refine pX_ 14 (some 56) (mk_ 40 32767) ?_
            refine pX_ 15 (some 57) (mk_ 40 65535) ?_
            refine pX_ 16 (some 58) (mk_ 40 131071) ?_
            refine pX_ 17 (some 59) (mk_ 40 262143) ?_
            refine pX_ 18 (some 60) (mk_ 40 524287) ?_
            refine pX_ 19 (some 61) (mk_ 40 1048575) ?_
            refine pX_ 20 (some 62) (mk_ 40 2097151) ?_
            refine pX_ 21 (some 63) (mk_ 40 4194303) ?_
            refine pX_ 22 (some 64) (mk_ 40 8388607) ?_
            refine pX_ 23 (some 65) (mk_ 40 16777215) ?_
            refine pX_ 24 (some 66) (mk_ 40 33554431) ?_
            refine pU_ 25 (some 67) (mk_ 40 67108863) ?_
            refine pU_ 26 (some 68) (mk_ 40 134217727) ?_
            refine pX_ 27 (some 69) (mk_ 40 268435455) ?_
            refine pX_ 28 (some 70) (mk_ 40 536870911) ?_
            refine pX_ 29 (some 71) (mk_ 40 1073741823) ?_
            refine pX_ 30 (some 72) (mk_ 40 2147483647) ?_
            refine pU_ 31 (some 73) (mk_ 40 4294967295) ?_
            refine pU_ 32 (some 74) (mk_ 40 8589934591) ?_
            refine pX_ 33 (some 75) (mk_ 40 17179869183) ?_
            refine pX_ 34 (some 76) (mk_ 40 34359738367) ?_
            refine pX_ 35 (some 77) (mk_ 40 68719476735) ?_
            refine pX_ 36 (some 78) (mk_ 40 137438953471) ?_
            refine pX_ 37 (some 79) (mk_ 40 274877906943) ?_
            refine pX_ 38 (some 80) (mk_ 40 549755813887) ?_
            refine pU_ 39 (some 81) (mk_ 40 1099511627775) ?_
            refine done_ (done_of HT_.out (by kernel_rfl)) ?_
            try go_wp2
            go_meet
            case rel => exact ⟨_, (true), (by first | rfl | (simp; done) | (simp [*]; done)), H', ⟨by have := HJ1.out; have := HK2.out; first | omega | exact Nat.le_refl _⟩, ⟨rW_ BK143.out⟩, ⟨rW_ BK147.out⟩, ⟨gW_ HB.out⟩⟩
          ·rw [if_neg c25] at H
           exact absurd H (by simp)
         case rest =>
          clear HC20
          try clear c1
          try clear p1
          try clear q1
          try clear hx1
          try clear c2
          try clear p2
          try clear c5
          try clear c14
          try clear p14
          try clear q14
          try clear hx14
          try clear c25
          try clear c27
          try clear c28
          try clear c28b0
          try clear c28b1
          try clear hx148_0
          try clear p148
          try clear q148
          obtain ⟨kq, x81_19, rfl, HA, HJ19, BK143, BK147, HB⟩ := hcut
          cases kq with
          | zero => exact absurd HA.out (by simp [spec_MachineOk.j2])
          | succ kj19 =>
           have H := HA.out
           clear HA
           simp only [spec_MachineOk.j2] at H
           by_cases c50 : x81_19 = true
           ·subst c50
            have H1 : (some false) = some r := by rw [if_pos rfl] at H; exact H
            clear H
            have H := H1
            clear H1
            obtain rfl := Option.some.inj H
            go_wp2
            go_ret
            exact fI_ HB.out
           ·replace c50 := Bool.eq_false_iff.mpr c50
            subst c50
            have H1 : (spec_MachineOk.l0 kj19 (l0_0.length : Int) (wrap64 (x4_2 + 1)) l0_0 l0_1 l0_2 l0_3) = some r := by rw [if_neg (show ¬ (false = true) by decide)] at H; exact H
            clear H
            have H := H1
            clear H1
            have H' := aM_ H
            clear H
            go_wp2
            go_roundg kj19
            case measure => have := HJ1.out; have := HK2.out; have := HJ19.out; omega
            case rel => exact ⟨(wrap64 (x4_2 + 1)), (by first | rfl | (simp; done) | (simp [*]; done)), H', ⟨by have := HJ1.out; have := HK2.out; have := HJ19.out; omega⟩, ⟨rW_ BK143.out⟩, ⟨gW_ HB.out⟩⟩
        ·rw [if_neg c19] at H
         exact absurd H (by simp)
       ·rw [if_neg c18] at H
        exact absurd H (by simp)
      ·rw [if_neg c17] at H
       have c17b0 : decide (x4_2 < (l0_0.length : Int)) = false := decide_eq_false c17
       clear c17
       have H' := aM_ H
       clear H
       go_wp2
       go_loopg [6] k2 (fun kq v6 w' => ∃ (x6_3 : Int), v6 = .int .i64 x6_3 ∧ Aside0 (spec_MachineOk.l1 kq (l0_0.length : Int) x6_3 l0_0 l0_1 l0_2 l0_3 = some r) ∧ Aside0 (kq ≤ k2) ∧ Aside0 (w'.heap[gb143]? = some (.cells #[(.slice A0_0 l0_0.length c0_0), (.slice A0_1 l0_1.length c0_1), (.slice A0_2 l0_2.length c0_2), (.slice A0_3 l0_3.length c0_3)] 69 (0, 0))) ∧ Aside0 (Below w.heap.size w w'))
       case atStart => exact ⟨(0), (by first | rfl | (simp; done) | (simp [*]; done)), H', ⟨Nat.le_refl _⟩, ⟨rW_ BK143.out⟩, ⟨gW_ HB.out⟩⟩
       case round =>
        clear H'
        try clear c1
        try clear p1
        try clear q1
        try clear hx1
        try clear c2
        try clear p2
        try clear c5
        try clear p6
        try clear c14
        try clear p14
        try clear q14
        try clear hx14
        try clear c17
        try clear c17b0
        try clear c18
        try clear c19
        try clear c25
        try clear c27
        try clear c28
        try clear c28b0
        try clear c28b1
        try clear c50
        try clear hx148_0
        try clear p1
        try clear p14
        try clear p148
        try clear p2
        try clear q1
        try clear q14
        try clear q148
        obtain ⟨x6_3, rfl, HA, HK3, BK143, HB⟩ := hrel
        cases gk with
        | zero => exact absurd HA.out (by simp [spec_MachineOk.l1])
        | succ k3 =>
         have H := HA.out
         clear HA
         simp only [spec_MachineOk.l1] at H
         by_cases c51 : x6_3 < (l0_3.length : Int)
         ·rw [if_pos c51] at H
          have c51b0 : decide (x6_3 < (l0_3.length : Int)) = true := decide_eq_true c51
          clear c51
          by_cases c52 : 0 ≤ x6_3
          ·rw [if_pos c52] at H
           have c52b0 : decide (0 ≤ x6_3) = true := decide_eq_true c52
           clear c52
           replace H := Option.bind_eq_some_iff.mp H
           obtain ⟨t155, A530, H⟩ := H
           replace H : (if t155 = true then (spec_MachineOk.l1 k3 (l0_0.length : Int) (wrap64 (x6_3 + 1)) l0_0 l0_1 l0_2 l0_3) else (some false)) = some r := H
           have A53 := aM_ A530
           clear A530
           by_cases c54 : t155 = true
           ·subst c54
            have H1 : (spec_MachineOk.l1 k3 (l0_0.length : Int) (wrap64 (x6_3 + 1)) l0_0 l0_1 l0_2 l0_3) = some r := by rw [if_pos rfl] at H; exact H
            clear H
            have H := H1
            clear H1
            have H' := aM_ H
            clear H
            obtain ⟨hcz55_0, hcz55_1, hcz55_2, hcz55_3, hfz55_0, hfz55_1, hfz55_2, hfz55_3⟩ := bR4_ BK143.out
            have p154 : 0 ≤ (x6_3 : Int) := of_decide_eq_true (by first | (with_reducible assumption) | assumption)
            have q154 : x6_3 < (l0_3.length : Int) := of_decide_eq_true (by first | (with_reducible assumption) | assumption)
            obtain ⟨ad154, e154, hx154_0, hx154_1⟩ := at_T93 HR0_3.out x6_3 p154 q154
            cases e154
            replace hx154_0 := cB_ HB.out hx154_0
            replace hx154_1 := cB_ HB.out hx154_1
            replace p154 := eq_true p154
            replace q154 := eq_true q154
            go_wp2_with (first | ((with_reducible refine gate_callee (f := 41) rfl ?_); refine gL_ (some 97) Try.func41 #[.int .i64 ((rd_T93 l0_3 x6_3).f0), .int .i64 0, .int .i64 (wrap64 ((l0_0.length : Int) - 1))] ?_; (with_reducible refine (spec_l1In.calls ((rd_T93 l0_3 x6_3).f0) 0 (wrap64 ((l0_0.length : Int) - 1)) true _ A53.out).mono ?_); rintro e w' ⟨rfl, ⟨nd, rfl⟩⟩; refine ⟨_, rfl, ?_⟩))
            go_roundg k3
            case measure => have := HJ1.out; have := HK2.out; have := HK3.out; omega
            case rel => exact ⟨(wrap64 (x6_3 + 1)), (by first | rfl | (simp; done) | (simp [*]; done)), H', ⟨by have := HJ1.out; have := HK2.out; have := HK3.out; omega⟩, ⟨rW_ BK143.out⟩, ⟨gW_ HB.out⟩⟩
           ·replace c54 := Bool.eq_false_iff.mpr c54
            subst c54
            have H1 : (some false) = some r := by rw [if_neg (show ¬ (false = true) by decide)] at H; exact H
            clear H
            have H := H1
            clear H1
            obtain rfl := Option.some.inj H
            obtain ⟨hcz56_0, hcz56_1, hcz56_2, hcz56_3, hfz56_0, hfz56_1, hfz56_2, hfz56_3⟩ := bR4_ BK143.out
            have p154 : 0 ≤ (x6_3 : Int) := of_decide_eq_true (by first | (with_reducible assumption) | assumption)
            have q154 : x6_3 < (l0_3.length : Int) := of_decide_eq_true (by first | (with_reducible assumption) | assumption)
            obtain ⟨ad154, e154, hx154_0, hx154_1⟩ := at_T93 HR0_3.out x6_3 p154 q154
            cases e154
            replace hx154_0 := cB_ HB.out hx154_0
            replace hx154_1 := cB_ HB.out hx154_1
            replace p154 := eq_true p154
            replace q154 := eq_true q154
            go_wp2_with (first | ((with_reducible refine gate_callee (f := 41) rfl ?_); refine gL_ (some 97) Try.func41 #[.int .i64 ((rd_T93 l0_3 x6_3).f0), .int .i64 0, .int .i64 (wrap64 ((l0_0.length : Int) - 1))] ?_; (with_reducible refine (spec_l1In.calls ((rd_T93 l0_3 x6_3).f0) 0 (wrap64 ((l0_0.length : Int) - 1)) false _ A53.out).mono ?_); rintro e w' ⟨rfl, ⟨nd, rfl⟩⟩; refine ⟨_, rfl, ?_⟩))
            go_ret
            exact fI_ HB.out
          ·rw [if_neg c52] at H
           exact absurd H (by simp)
         ·rw [if_neg c51] at H
          have c51b0 : decide (x6_3 < (l0_3.length : Int)) = false := decide_eq_false c51
          clear c51
          obtain rfl := Option.some.inj H
          obtain ⟨hcz57_0, hcz57_1, hcz57_2, hcz57_3, hfz57_0, hfz57_1, hfz57_2, hfz57_3⟩ := bR4_ BK143.out
          go_wp2
          go_ret
          exact fI_ HB.out
end Go.Proofs.Ytfaoipojijhlbaa.PFnExactMachineOk
