/- A part of the proof that the law FnExactMachineNew holds for every input. -/
import Derived.Test.YtobachfngmpeiaaZFnExactMachineNewa9
import Derived.Test.YtobachfngmpeiaaZFnExactMachineNews
namespace Go.Proofs.Ytobachfngmpeiaa.PFnExactMachineNew
open Go.RowKit Go.Proofs.YtobachfngmpeiaaW.PrintWords Go.Proofs.YtobachfngmpeiaaW.PrintLast Go.Proofs.YtobachfngmpeiaaW.PrintMore
attribute [local go_sem] max2_int min2_int max_two min_two max_three min_three max_four min_four   -- for this text's walks alone
set_option linter.unusedVariables false
set_option linter.unusedSimpArgs false
mutual
def impl_MachineOk.j0 : Nat → Bool → List (List (S175)) → List (S123) → List (List (S170)) → List (S35) → Option (Bool)
  | 0, _, _, _, _, _ => none
  | k + 1, x33, x248000, x248001, x248002, x248003 => if x33 = true then (some false) else (impl_MachineOk.l0 k x248001 (x248001.length : Int) 0 x248000 x248001 x248002 x248003)
def impl_MachineOk.l0 : Nat → List (S123) → Int → Int → List (List (S175)) → List (S123) → List (List (S170)) → List (S35) → Option (Bool)
  | 0, _, _, _, _, _, _, _ => none
  | k + 1, x35, x36, x37, x248000, x248001, x248002, x248003 => if x37 < x36 then (if 0 ≤ x37 then (if x37 < (x35.length : Int) then (if x37 < (x248000.length : Int) then ((impl_CodeOk.f k (rd_L4 x248000 x37)).bind fun t254 => (if t254 = true then (if (((rd_T123 x35 x37).f1).length : Int) = 8 then ((impl_within.f ((rd_T123 x35 x37).f0) 0 (wrap64 (((rd_L4 x248000 x37).length : Int) - 1))).bind fun t256 => (impl_MachineOk.j2 k x35 x36 x37 (!t256) x248000 x248001 x248002 x248003 ((rd_T123 x35 x37).f0) ((rd_T123 x35 x37).f1) ((rd_T123 x35 x37).f2) ((rd_T123 x35 x37).f3))) else (impl_MachineOk.j2 k x35 x36 x37 true x248000 x248001 x248002 x248003 ((rd_T123 x35 x37).f0) ((rd_T123 x35 x37).f1) ((rd_T123 x35 x37).f2) ((rd_T123 x35 x37).f3))) else (impl_MachineOk.j2 k x35 x36 x37 true x248000 x248001 x248002 x248003 ((rd_T123 x35 x37).f0) ((rd_T123 x35 x37).f1) ((rd_T123 x35 x37).f2) ((rd_T123 x35 x37).f3)))) else (none)) else (none)) else (none)) else (some true)
def impl_MachineOk.j2 : Nat → List (S123) → Int → Int → Bool → List (List (S175)) → List (S123) → List (List (S170)) → List (S35) → Int → List Int → List Int → Int → Option (Bool)
  | 0, _, _, _, _, _, _, _, _, _, _, _, _ => none
  | k + 1, x35, x36, x37, x67, x248000, x248001, x248002, x248003, x253000, x253001, x253002, x253003 => if x67 = true then (some false) else ((impl_within.f x253003 0 2).bind fun t257 => (if t257 = true then ((impl_ViewOk.f k x248002 x253002).bind fun t258 => (if t258 = true then (impl_MachineOk.l0 k x35 x36 (wrap64 (x37 + 1)) x248000 x248001 x248002 x248003) else (some false))) else (some false)))
end
def impl_MachineOk.f (k : Nat) (l0_0 : List (List (S175))) (l0_1 : List (S123)) (l0_2 : List (List (S170))) (l0_3 : List (S35)) : Option (Bool) := (impl_within.f (l0_0.length : Int) 1 4).bind fun t248 => (if t248 = true then (if (l0_1.length : Int) = (l0_0.length : Int) then ((impl_MemoryOk.f k l0_2).bind fun t249 => (if t249 = true then ((impl_notesOk.f k l0_3 (l0_1.length : Int)).bind fun t250 => (impl_MachineOk.j0 k (!t250) l0_0 l0_1 l0_2 l0_3)) else (impl_MachineOk.j0 k true l0_0 l0_1 l0_2 l0_3))) else (impl_MachineOk.j0 k true l0_0 l0_1 l0_2 l0_3)) else (impl_MachineOk.j0 k true l0_0 l0_1 l0_2 l0_3))
def impl_MachineOk.T6 : Bool × List (List Nat × List Nat) := (true, [([], []), ([0], [0]), ([], []), ([1, 2], [1, 2]), ([3], [3]), ([4], [4]), ([5], [5]), ([6, 5], [6]), ([7], [7]), ([8, 7], [7, 8]), ([9, 7], [7, 9]), ([10, 7], [7, 10]), ([7, 11], [7, 11]), ([12, 7], [12]), ([13], [13]), ([14, 13], [13, 14]), ([13], [13]), ([16, 13], [13, 16]), ([13], [13]), ([17, 18, 13], [13, 17, 18]), ([19, 13], [13, 19]), ([20, 13], [13, 20]), ([21, 13], [13, 21]), ([15, 22, 13, 13], [13, 15, 22]), ([23, 13], [13, 23]), ([13, 24], [13, 24])])
def impl_MachineOk.B6 : List Nat := [0, 1, 0, 7, 15, 31, 63, 127, 255, 511, 1023, 2047, 4095, 8191, 16383, 32767, 16383, 81919, 16383, 475135, 999423, 2047999, 4145151, 8388607, 16777215, 33554431]
theorem impl_MachineOk.tab6 : rtab .any (opsOf Try.f81 6) = impl_MachineOk.T6 := by kernel_rfl
theorem impl_MachineOk.bits6 : waitsOk impl_MachineOk.T6.2 impl_MachineOk.B6 = true := by kernel_rfl
set_option maxHeartbeats 8000000 in
set_option maxRecDepth 100000 in
theorem impl_MachineOk.calls (k : Nat) (A0_0 : Option Addr) (c0_0 : Nat) (l0_0 : List (List (S175))) (A0_1 : Option Addr) (c0_1 : Nat) (l0_1 : List (S123)) (A0_2 : Option Addr) (c0_2 : Nat) (l0_2 : List (List (S170))) (A0_3 : Option Addr) (c0_3 : Nat) (l0_3 : List (S35)) (r : Bool) (w : World) (hr0_0 : Kd.C (Kd.slice 175 k175) w A0_0 l0_0.length l0_0) (hc0_0 : l0_0.length ≤ c0_0) (hr0_1 : Kd.C k123 w A0_1 l0_1.length l0_1) (hc0_1 : l0_1.length ≤ c0_1) (hr0_2 : Kd.C (Kd.slice 170 k170) w A0_2 l0_2.length l0_2) (hc0_2 : l0_2.length ≤ c0_2) (hr0_3 : Kd.C k35 w A0_3 l0_3.length l0_3) (hc0_3 : l0_3.length ≤ c0_3) (h : impl_MachineOk.f k l0_0 l0_1 l0_2 l0_3 = some r) :
  Calls Try.prog 81 #[.agg #[.slice A0_0 l0_0.length c0_0, .slice A0_1 l0_1.length c0_1, .slice A0_2 l0_2.length c0_2, .slice A0_3 l0_3.length c0_3]] w fun e w' => e = .returned (.bool r) ∧ Below w.heap.size w w' := by
 have hu59 := Try.underlying59
 have hu57 := Try.underlying57
 have hu123 := Try.underlying123
 have HR0_0 := aM_ hr0_0
 have HC0_0 := aM_ hc0_0
 clear hr0_0 hc0_0
 have HR0_1 := aM_ hr0_1
 have HC0_1 := aM_ hc0_1
 clear hr0_1 hc0_1
 have HR0_2 := aM_ hr0_2
 have HC0_2 := aM_ hc0_2
 clear hr0_2 hc0_2
 have HR0_3 := aM_ hr0_3
 have HC0_3 := aM_ hc0_3
 clear hr0_3 hc0_3
 have HB := aM_ (Below.refl w.heap.size w)
 have H : ((impl_within.f (l0_0.length : Int) 1 4).bind fun t248 => (if t248 = true then (if (l0_1.length : Int) = (l0_0.length : Int) then ((impl_MemoryOk.f k l0_2).bind fun t249 => (if t249 = true then ((impl_notesOk.f k l0_3 (l0_1.length : Int)).bind fun t250 => (impl_MachineOk.j0 k (!t250) l0_0 l0_1 l0_2 l0_3)) else (impl_MachineOk.j0 k true l0_0 l0_1 l0_2 l0_3))) else (impl_MachineOk.j0 k true l0_0 l0_1 l0_2 l0_3)) else (impl_MachineOk.j0 k true l0_0 l0_1 l0_2 l0_3))) = some r := h
 clear h
 have HC2 := aM_ H
 clear H
 go_enter Try.func81, Try.ntmps81
 go_upto_region 1 with (first | ((with_reducible refine gate_dst (N := 1) rfl ?_); (try (refine gate_guard (by rfl) ?_; dsimp only)); refine bX_ 1 (cs := #[.slice A0_0 l0_0.length c0_0, .slice A0_1 l0_1.length c0_1, .slice A0_2 l0_2.length c0_2, .slice A0_3 l0_3.length c0_3]) (t := 59) ?_; intro gb247 hg w3 hbox hb; have BK247 := aM_ (hbox); have GE247 := aM_ (sZ_ hg HB.out); replace HB := aM_ (sT_ HB.out hb); clear hb hbox hg))
 (try simp only [Act.put, List.setIfInBounds_toArray, List.set_cons_zero, List.set_cons_succ])
 go_cut [33] (fun v33 wc => ∃ (kq : Nat) (x33_1 : Bool), v33 = .bool x33_1 ∧ Aside0 (impl_MachineOk.j0 kq x33_1 l0_0 l0_1 l0_2 l0_3 = some r) ∧ Aside0 (kq ≤ k) ∧ Aside0 (wc.heap[gb247]? = some (.cells #[(.slice A0_0 l0_0.length c0_0), (.slice A0_1 l0_1.length c0_1), (.slice A0_2 l0_2.length c0_2), (.slice A0_3 l0_3.length c0_3)] 59 (0, 0))) ∧ Aside0 (Below w.heap.size w wc))
 case first =>
  have H := HC2.out
  clear HC2
  replace H := Option.bind_eq_some_iff.mp H
  obtain ⟨t248, A40, H⟩ := H
  replace H : (if t248 = true then (if (l0_1.length : Int) = (l0_0.length : Int) then ((impl_MemoryOk.f k l0_2).bind fun t249 => (if t249 = true then ((impl_notesOk.f k l0_3 (l0_1.length : Int)).bind fun t250 => (impl_MachineOk.j0 k (!t250) l0_0 l0_1 l0_2 l0_3)) else (impl_MachineOk.j0 k true l0_0 l0_1 l0_2 l0_3))) else (impl_MachineOk.j0 k true l0_0 l0_1 l0_2 l0_3)) else (impl_MachineOk.j0 k true l0_0 l0_1 l0_2 l0_3)) = some r := H
  have A4 := aM_ A40
  clear A40
  by_cases c5 : t248 = true
  ·subst c5
   have H1 : (if (l0_1.length : Int) = (l0_0.length : Int) then ((impl_MemoryOk.f k l0_2).bind fun t249 => (if t249 = true then ((impl_notesOk.f k l0_3 (l0_1.length : Int)).bind fun t250 => (impl_MachineOk.j0 k (!t250) l0_0 l0_1 l0_2 l0_3)) else (impl_MachineOk.j0 k true l0_0 l0_1 l0_2 l0_3))) else (impl_MachineOk.j0 k true l0_0 l0_1 l0_2 l0_3)) = some r := by rw [if_pos rfl] at H; exact H
   clear H
   have H := H1
   clear H1
   by_cases c6 : (l0_1.length : Int) = (l0_0.length : Int)
   ·rw [if_pos c6] at H
    have c6b0 : ((l0_1.length : Int) == (l0_0.length : Int)) = true := beq_iff_eq.mpr c6
    have c6b1 : ((l0_1.length : Int) != (l0_0.length : Int)) = false := bne_eq_false_iff_eq.mpr c6
    have c6b2 : (l0_1.length == l0_0.length) = true := by first | simpa using c6 | (simp at c6 ⊢; omega)
    clear c6
    (first | rw [c6b0] | (simp only [i64_w, i32_w]; rw [c6b0]) | skip)
    replace H := Option.bind_eq_some_iff.mp H
    obtain ⟨t249, A70, H⟩ := H
    replace H : (if t249 = true then ((impl_notesOk.f k l0_3 (l0_1.length : Int)).bind fun t250 => (impl_MachineOk.j0 k (!t250) l0_0 l0_1 l0_2 l0_3)) else (impl_MachineOk.j0 k true l0_0 l0_1 l0_2 l0_3)) = some r := H
    have A7 := aM_ A70
    clear A70
    by_cases c8 : t249 = true
    ·subst c8
     have H1 : ((impl_notesOk.f k l0_3 (l0_1.length : Int)).bind fun t250 => (impl_MachineOk.j0 k (!t250) l0_0 l0_1 l0_2 l0_3)) = some r := by rw [if_pos rfl] at H; exact H
     clear H
     have H := H1
     clear H1
     replace H := Option.bind_eq_some_iff.mp H
     obtain ⟨t250, A90, H⟩ := H
     replace H : (impl_MachineOk.j0 k (!t250) l0_0 l0_1 l0_2 l0_3) = some r := H
     have A9 := aM_ A90
     clear A90
     have H' := aM_ H
     clear H
     have z_10 := bR4_ BK247.out
     go_wp2_with (first | ((with_reducible refine gate_callee (f := 106) rfl ?_); refine gL_ (some 8) Try.func106 #[.int .i64 (l0_0.length : Int), .int .i64 1, .int .i64 4] ?_; (with_reducible refine (impl_within.calls (l0_0.length : Int) 1 4 true _ A4.out).mono ?_); rintro e w' ⟨rfl, ⟨nd, rfl⟩⟩; refine ⟨_, rfl, ?_⟩) | (go_at_call 114; (with_reducible refine (impl_MemoryOk.calls k _ _ l0_2 true _ ?side1 ?side2 A7.out).mono ?_); (case side1 => exact cS_ (Kd.C_below HR0_2.out (gB_ HB.out))); (case side2 => exact HC0_2.out); rintro e w11 ⟨rfl, hb⟩; replace BK247 := aM_ (nB_ BK247.out hb); replace HB := aM_ (sT_ HB.out hb); have z_12 := bR4_ BK247.out) | (go_at_call 135; (with_reducible refine (impl_notesOk.calls k _ _ l0_3 (l0_1.length : Int) t250 _ ?side1 ?side2 A9.out).mono ?_); (case side1 => exact cS_ (Kd.C_below HR0_3.out HB.out)); (case side2 => exact HC0_3.out); rintro e w13 ⟨rfl, hb⟩; replace BK247 := aM_ (nB_ BK247.out hb); replace HB := aM_ (sT_ HB.out hb)))
     go_meet
     case rel => exact ⟨_, (!t250), (by first | rfl | (simp; done) | (simp [*]; done)), H', ⟨by first | omega | exact Nat.le_refl _⟩, ⟨rW_ BK247.out⟩, ⟨gW_ HB.out⟩⟩
    ·replace c8 := Bool.eq_false_iff.mpr c8
     subst c8
     have H1 : (impl_MachineOk.j0 k true l0_0 l0_1 l0_2 l0_3) = some r := by rw [if_neg (show ¬ (false = true) by decide)] at H; exact H
     clear H
     have H := H1
     clear H1
     have H' := aM_ H
     clear H
     have z_14 := bR4_ BK247.out
     go_wp2_with (first | ((with_reducible refine gate_callee (f := 106) rfl ?_); refine gL_ (some 8) Try.func106 #[.int .i64 (l0_0.length : Int), .int .i64 1, .int .i64 4] ?_; (with_reducible refine (impl_within.calls (l0_0.length : Int) 1 4 true _ A4.out).mono ?_); rintro e w' ⟨rfl, ⟨nd, rfl⟩⟩; refine ⟨_, rfl, ?_⟩) | (go_at_call 114; (with_reducible refine (impl_MemoryOk.calls k _ _ l0_2 false _ ?side1 ?side2 A7.out).mono ?_); (case side1 => exact cS_ (Kd.C_below HR0_2.out (gB_ HB.out))); (case side2 => exact HC0_2.out); rintro e w15 ⟨rfl, hb⟩; replace BK247 := aM_ (nB_ BK247.out hb); replace HB := aM_ (sT_ HB.out hb)))
     go_meet
     case rel => exact ⟨_, (true), (by first | rfl | (simp; done) | (simp [*]; done)), H', ⟨by first | omega | exact Nat.le_refl _⟩, ⟨rW_ BK247.out⟩, ⟨gW_ HB.out⟩⟩
   ·rw [if_neg c6] at H
    have c6b0 : ((l0_1.length : Int) == (l0_0.length : Int)) = false := beq_eq_false_iff_ne.mpr c6
    have c6b1 : ((l0_1.length : Int) != (l0_0.length : Int)) = true := bne_iff_ne.mpr c6
    have c6b2 : (l0_1.length == l0_0.length) = false := by first | simpa using c6 | (simp at c6 ⊢; omega)
    (first | rw [c6b0] | (simp only [i64_w, i32_w]; rw [c6b0]) | skip)
    have H' := aM_ H
    clear H
    have z_16 := bR4_ BK247.out
    go_wp2_with (first | ((with_reducible refine gate_callee (f := 106) rfl ?_); refine gL_ (some 8) Try.func106 #[.int .i64 (l0_0.length : Int), .int .i64 1, .int .i64 4] ?_; (with_reducible refine (impl_within.calls (l0_0.length : Int) 1 4 true _ A4.out).mono ?_); rintro e w' ⟨rfl, ⟨nd, rfl⟩⟩; refine ⟨_, rfl, ?_⟩))
    go_meet
    case rel => exact ⟨_, (true), (by first | rfl | (simp; done) | (simp [*]; done)), H', ⟨by first | omega | exact Nat.le_refl _⟩, ⟨rW_ BK247.out⟩, ⟨gW_ HB.out⟩⟩
  ·replace c5 := Bool.eq_false_iff.mpr c5
   subst c5
   have H1 : (impl_MachineOk.j0 k true l0_0 l0_1 l0_2 l0_3) = some r := by rw [if_neg (show ¬ (false = true) by decide)] at H; exact H
   clear H
   have H := H1
   clear H1
   have H' := aM_ H
   clear H
   have z_17 := bR4_ BK247.out
   go_wp2_with (first | ((with_reducible refine gate_callee (f := 106) rfl ?_); refine gL_ (some 8) Try.func106 #[.int .i64 (l0_0.length : Int), .int .i64 1, .int .i64 4] ?_; (with_reducible refine (impl_within.calls (l0_0.length : Int) 1 4 false _ A4.out).mono ?_); rintro e w' ⟨rfl, ⟨nd, rfl⟩⟩; refine ⟨_, rfl, ?_⟩))
   go_meet
   case rel => exact ⟨_, (true), (by first | rfl | (simp; done) | (simp [*]; done)), H', ⟨by first | omega | exact Nat.le_refl _⟩, ⟨rW_ BK247.out⟩, ⟨gW_ HB.out⟩⟩
 case rest =>
  clear HC2
  try clear c1
  try clear p2
  try clear c5
  try clear c6
  try clear c6b0
  try clear c6b1
  try clear c6b2
  try clear c8
  try clear c10
  try clear z_10
  try clear z_12
  try clear z_14
  try clear z_16
  try clear z_17
  obtain ⟨kq, x33_1, rfl, HA, HJ1, BK247, HB⟩ := hcut
  cases kq with
  | zero => exact absurd HA.out (by simp [impl_MachineOk.j0])
  | succ kj1 =>
   have H := HA.out
   clear HA
   simp only [impl_MachineOk.j0] at H
   by_cases c18 : x33_1 = true
   ·subst c18
    have H1 : (some false) = some r := by rw [if_pos rfl] at H; exact H
    clear H
    have H := H1
    clear H1
    obtain rfl := Option.some.inj H
    go_wp2
    go_ret
    exact fI_ HB.out
   ·replace c18 := Bool.eq_false_iff.mpr c18
    subst c18
    have H1 : (impl_MachineOk.l0 kj1 l0_1 (l0_1.length : Int) 0 l0_0 l0_1 l0_2 l0_3) = some r := by rw [if_neg (show ¬ (false = true) by decide)] at H; exact H
    clear H
    have H := H1
    clear H1
    have H' := aM_ H
    clear H
    have z_19 := bR4_ BK247.out
    go_wp2
    go_loopg [37] kj1 (fun kq v37 w' => ∃ (x37_2 : Int), v37 = .int .i64 x37_2 ∧ Aside0 (impl_MachineOk.l0 kq l0_1 (l0_1.length : Int) x37_2 l0_0 l0_1 l0_2 l0_3 = some r) ∧ Aside0 (kq ≤ kj1) ∧ Aside0 (w'.heap[gb247]? = some (.cells #[(.slice A0_0 l0_0.length c0_0), (.slice A0_1 l0_1.length c0_1), (.slice A0_2 l0_2.length c0_2), (.slice A0_3 l0_3.length c0_3)] 59 (0, 0))) ∧ Aside0 (Below w.heap.size w w'))
    case atStart => exact ⟨(0), (by first | rfl | (simp; done) | (simp [*]; done)), H', ⟨Nat.le_refl _⟩, ⟨rW_ BK247.out⟩, ⟨gW_ HB.out⟩⟩
    case round =>
     clear H'
     try clear c1
     try clear p2
     try clear c5
     try clear c6
     try clear c6b0
     try clear c6b1
     try clear c6b2
     try clear c8
     try clear c10
     try clear c18
     try clear z_10
     try clear z_12
     try clear z_14
     try clear z_16
     try clear z_17
     try clear z_19
     try clear p2
     obtain ⟨x37_2, rfl, HA, HK2, BK247, HB⟩ := hrel
     cases gk with
     | zero => exact absurd HA.out (by simp [impl_MachineOk.l0])
     | succ k2 =>
      have H := HA.out
      clear HA
      simp only [impl_MachineOk.l0] at H
      by_cases c20 : x37_2 < (l0_1.length : Int)
      ·rw [if_pos c20] at H
       have c20b0 : decide (x37_2 < (l0_1.length : Int)) = true := decide_eq_true c20
       clear c20
       by_cases c21 : 0 ≤ x37_2
       ·rw [if_pos c21] at H
        have c21b0 : decide (0 ≤ x37_2) = true := decide_eq_true c21
        clear c21
        by_cases c22 : x37_2 < (l0_1.length : Int)
        ·rw [if_pos c22] at H
         have c22b0 : decide (x37_2 < (l0_1.length : Int)) = true := decide_eq_true c22
         clear c22
         have HC23 := aM_ H
         clear H
         have p251 : 0 ≤ (x37_2 : Int) := of_decide_eq_true (by first | (with_reducible assumption) | assumption)
         have q251 : x37_2 < (l0_1.length : Int) := of_decide_eq_true (by first | (with_reducible assumption) | assumption)
         obtain ⟨ad251, A251_1, c251_1, A251_2, c251_2, e251, hx251_0, hx251_1, hx251_2, hx251_3, hl251_1, hi251_1, hl251_2, hi251_2⟩ := at_T123 HR0_1.out x37_2 p251 q251
         cases e251
         replace hx251_0 := cB_ HB.out hx251_0
         replace hx251_1 := cB_ HB.out hx251_1
         replace hx251_2 := cB_ HB.out hx251_2
         replace hx251_3 := cB_ HB.out hx251_3
         have HR251_1 := aM_ hi251_1
         have HC251_1 := aM_ hl251_1
         clear hi251_1 hl251_1
         have HR251_2 := aM_ hi251_2
         have HC251_2 := aM_ hl251_2
         clear hi251_2 hl251_2
         replace p251 := eq_true p251
         replace q251 := eq_true q251
         go_upto_region 6 with (first | ((with_reducible refine gate_dst (N := 4) rfl ?_); (try (refine gate_guard (by rfl) ?_; dsimp only)); refine bX_ 4 (cs := #[.int .i64 0, .slice none 0 0, .slice none 0 0, .int .i64 0]) (t := 123) ?_; intro gb252 hg w24 hbox hb; have BK252 := aM_ (hbox); have GE252 := aM_ (sZ_ hg HB.out); have NB247_252 := aM_ (nL_ hg BK247.out); have NB252_247 := aM_ (nG_ hg BK247.out); replace BK247 := aM_ (nB_ BK247.out hb); replace HB := aM_ (sT_ HB.out hb); clear hb hbox hg; have hnb25 := NB252_247.out; have hnc25 := NB247_252.out; have z_26 := bR4_ BK252.out))
         (try simp only [Act.put, List.setIfInBounds_toArray, List.set_cons_zero, List.set_cons_succ])
         go_cut [67] (fun v67 wc => ∃ (kq : Nat) (x67_22 : Bool), v67 = .bool x67_22 ∧ Aside0 (impl_MachineOk.j2 kq l0_1 (l0_1.length : Int) x37_2 x67_22 l0_0 l0_1 l0_2 l0_3 ((rd_T123 l0_1 x37_2).f0) ((rd_T123 l0_1 x37_2).f1) ((rd_T123 l0_1 x37_2).f2) ((rd_T123 l0_1 x37_2).f3) = some r) ∧ Aside0 (kq ≤ k2) ∧ Aside0 (wc.heap[gb247]? = some (.cells #[(.slice A0_0 l0_0.length c0_0), (.slice (some ad251) l0_1.length c0_1), (.slice A0_2 l0_2.length c0_2), (.slice A0_3 l0_3.length c0_3)] 59 (0, 0))) ∧ Aside0 (wc.heap[gb252]? = some (.cells #[.int .i64 ((rd_T123 l0_1 x37_2).f0), (.slice A251_1 ((rd_T123 l0_1 x37_2).f1).length c251_1), (.slice A251_2 ((rd_T123 l0_1 x37_2).f2).length c251_2), .int .i64 ((rd_T123 l0_1 x37_2).f3)] 123 (0, 0))) ∧ Aside0 (Below w.heap.size w wc))
         case first =>
          have H := HC23.out
          clear HC23
          by_cases c27 : x37_2 < (l0_0.length : Int)
          ·rw [if_pos c27] at H
           have c27b0 : decide (x37_2 < (l0_0.length : Int)) = true := decide_eq_true c27
           clear c27
           (first | rw [c27b0] | (simp only [i64_w, i32_w]; rw [c27b0]) | skip)
           replace H := Option.bind_eq_some_iff.mp H
           obtain ⟨t254, A280, H⟩ := H
           replace H : (if t254 = true then (if (((rd_T123 l0_1 x37_2).f1).length : Int) = 8 then ((impl_within.f ((rd_T123 l0_1 x37_2).f0) 0 (wrap64 (((rd_L4 l0_0 x37_2).length : Int) - 1))).bind fun t256 => (impl_MachineOk.j2 k2 l0_1 (l0_1.length : Int) x37_2 (!t256) l0_0 l0_1 l0_2 l0_3 ((rd_T123 l0_1 x37_2).f0) ((rd_T123 l0_1 x37_2).f1) ((rd_T123 l0_1 x37_2).f2) ((rd_T123 l0_1 x37_2).f3))) else (impl_MachineOk.j2 k2 l0_1 (l0_1.length : Int) x37_2 true l0_0 l0_1 l0_2 l0_3 ((rd_T123 l0_1 x37_2).f0) ((rd_T123 l0_1 x37_2).f1) ((rd_T123 l0_1 x37_2).f2) ((rd_T123 l0_1 x37_2).f3))) else (impl_MachineOk.j2 k2 l0_1 (l0_1.length : Int) x37_2 true l0_0 l0_1 l0_2 l0_3 ((rd_T123 l0_1 x37_2).f0) ((rd_T123 l0_1 x37_2).f1) ((rd_T123 l0_1 x37_2).f2) ((rd_T123 l0_1 x37_2).f3))) = some r := H
           have A28 := aM_ A280
           clear A280
           by_cases c29 : t254 = true
           ·subst c29
            have H1 : (if (((rd_T123 l0_1 x37_2).f1).length : Int) = 8 then ((impl_within.f ((rd_T123 l0_1 x37_2).f0) 0 (wrap64 (((rd_L4 l0_0 x37_2).length : Int) - 1))).bind fun t256 => (impl_MachineOk.j2 k2 l0_1 (l0_1.length : Int) x37_2 (!t256) l0_0 l0_1 l0_2 l0_3 ((rd_T123 l0_1 x37_2).f0) ((rd_T123 l0_1 x37_2).f1) ((rd_T123 l0_1 x37_2).f2) ((rd_T123 l0_1 x37_2).f3))) else (impl_MachineOk.j2 k2 l0_1 (l0_1.length : Int) x37_2 true l0_0 l0_1 l0_2 l0_3 ((rd_T123 l0_1 x37_2).f0) ((rd_T123 l0_1 x37_2).f1) ((rd_T123 l0_1 x37_2).f2) ((rd_T123 l0_1 x37_2).f3))) = some r := by rw [if_pos rfl] at H; exact H
            clear H
            have H := H1
            clear H1
            by_cases c30 : (((rd_T123 l0_1 x37_2).f1).length : Int) = 8
            ·rw [if_pos c30] at H
             have c30b0 : ((((rd_T123 l0_1 x37_2).f1).length : Int) == 8) = true := beq_iff_eq.mpr c30
             have c30b1 : ((((rd_T123 l0_1 x37_2).f1).length : Int) != 8) = false := bne_eq_false_iff_eq.mpr c30
             clear c30
             replace H := Option.bind_eq_some_iff.mp H
             obtain ⟨t256, A310, H⟩ := H
             replace H : (impl_MachineOk.j2 k2 l0_1 (l0_1.length : Int) x37_2 (!t256) l0_0 l0_1 l0_2 l0_3 ((rd_T123 l0_1 x37_2).f0) ((rd_T123 l0_1 x37_2).f1) ((rd_T123 l0_1 x37_2).f2) ((rd_T123 l0_1 x37_2).f3)) = some r := H
             have A31 := aM_ A310
             clear A310
             have H' := aM_ H
             clear H
             try go_wp2
             have n0 : Aside0 (((((w24.setCell ⟨gb252, 0, none⟩ (.int .i64 ((rd_T123 l0_1 x37_2).f0))).setCell ⟨gb252, 1, none⟩ (.slice A251_1 ((rd_T123 l0_1 x37_2).f1).length c251_1)).setCell ⟨gb252, 2, none⟩ (.slice A251_2 ((rd_T123 l0_1 x37_2).f2).length c251_2)).setCell ⟨gb252, 3, none⟩ (.int .i64 ((rd_T123 l0_1 x37_2).f3))).heap[gb247]? = some (.cells #[.slice A0_0 l0_0.length c0_0, .slice (some ad251) l0_1.length c0_1, .slice A0_2 l0_2.length c0_2, .slice A0_3 l0_3.length c0_3] 59 (0, 0))) := ⟨rWf_ BK247.out⟩
             have n1 : Aside0 (((((w24.setCell ⟨gb252, 0, none⟩ (.int .i64 ((rd_T123 l0_1 x37_2).f0))).setCell ⟨gb252, 1, none⟩ (.slice A251_1 ((rd_T123 l0_1 x37_2).f1).length c251_1)).setCell ⟨gb252, 2, none⟩ (.slice A251_2 ((rd_T123 l0_1 x37_2).f2).length c251_2)).setCell ⟨gb252, 3, none⟩ (.int .i64 ((rd_T123 l0_1 x37_2).f3))).heap[gb252]? = some (.cells #[.int .i64 ((rd_T123 l0_1 x37_2).f0), .slice A251_1 ((rd_T123 l0_1 x37_2).f1).length c251_1, .slice A251_2 ((rd_T123 l0_1 x37_2).f2).length c251_2, .int .i64 ((rd_T123 l0_1 x37_2).f3)] 123 (0, 0))) := ⟨by (with_reducible repeat (first | refine bN_ ?_ _ | refine bD_ ?_ | refine bA_ ?_ _)); refine blk_put (cs := #[.int .i64 ((rd_T123 l0_1 x37_2).f0), .slice A251_1 ((rd_T123 l0_1 x37_2).f1).length c251_1, .slice A251_2 ((rd_T123 l0_1 x37_2).f2).length c251_2, .int .i64 0]) ?_ 3 _ rfl; refine blk_put (cs := #[.int .i64 ((rd_T123 l0_1 x37_2).f0), .slice A251_1 ((rd_T123 l0_1 x37_2).f1).length c251_1, .slice none 0 0, .int .i64 0]) ?_ 2 _ rfl; refine blk_put (cs := #[.int .i64 ((rd_T123 l0_1 x37_2).f0), .slice none 0 0, .slice none 0 0, .int .i64 0]) ?_ 1 _ rfl; refine blk_put (cs := #[.int .i64 0, .slice none 0 0, .slice none 0 0, .int .i64 0]) ?_ 0 _ rfl; (with_reducible repeat (first | refine bN_ ?_ _ | refine bD_ ?_ | refine bA_ ?_ _)); exact BK252.out⟩
             have n2 : Aside0 (Below w.heap.size w ((((w24.setCell ⟨gb252, 0, none⟩ (.int .i64 ((rd_T123 l0_1 x37_2).f0))).setCell ⟨gb252, 1, none⟩ (.slice A251_1 ((rd_T123 l0_1 x37_2).f1).length c251_1)).setCell ⟨gb252, 2, none⟩ (.slice A251_2 ((rd_T123 l0_1 x37_2).f2).length c251_2)).setCell ⟨gb252, 3, none⟩ (.int .i64 ((rd_T123 l0_1 x37_2).f3)))) := ⟨gW_ HB.out⟩
             (try clear BK247)
             (try clear BK252)
             (try clear HB)
             generalize ((((w24.setCell ⟨gb252, 0, none⟩ (.int .i64 ((rd_T123 l0_1 x37_2).f0))).setCell ⟨gb252, 1, none⟩ (.slice A251_1 ((rd_T123 l0_1 x37_2).f1).length c251_1)).setCell ⟨gb252, 2, none⟩ (.slice A251_2 ((rd_T123 l0_1 x37_2).f2).length c251_2)).setCell ⟨gb252, 3, none⟩ (.int .i64 ((rd_T123 l0_1 x37_2).f3))) = w32 at n0 n1 n2 ⊢
             have BK247 := n0
             have BK252 := n1
             have HB := n2
             clear n0 n1 n2
             replace BK247 := aM_ (blk_drew BK247.out)
             replace BK252 := aM_ (blk_drew BK252.out)
             replace HB := aM_ (below_drew1 HB.out)
             have p253 : 0 ≤ (x37_2 : Int) := of_decide_eq_true (by first | (with_reducible assumption) | assumption)
             have q253 : x37_2 < (l0_0.length : Int) := of_decide_eq_true (by first | (with_reducible assumption) | assumption)
             obtain ⟨ad253, A253_0, c253_0, e253, hx253_0, hl253_0, hi253_0⟩ := at_L4 HR0_0.out x37_2 p253 q253
             have hw253_0 := hx253_0
             cases e253
             replace hx253_0 := cB_ HB.out hx253_0
             have HR253_0 := aM_ hi253_0
             have HC253_0 := aM_ hl253_0
             clear hi253_0 hl253_0
             replace p253 := eq_true p253
             replace q253 := eq_true q253
             have p255 : 0 ≤ (x37_2 : Int) := of_decide_eq_true (by first | (with_reducible assumption) | assumption)
             have q255 : x37_2 < (l0_0.length : Int) := of_decide_eq_true (by first | (with_reducible assumption) | assumption)
             obtain ⟨ad255, A255_0, c255_0, e255, hx255_0, hl255_0, hi255_0⟩ := at_L4 HR0_0.out x37_2 p255 q255
             have hw255_0 := hx255_0
             obtain rfl : ad253 = ad255 := (by injection e255)
             replace hx255_0 := cB_ HB.out hx255_0
             have HR255_0 := aM_ hi255_0
             have HC255_0 := aM_ hl255_0
             clear hi255_0 hl255_0
             replace p255 := eq_true p255
             replace q255 := eq_true q255
             refine start_ (n := 26) (S := fun w' => w'.cell? ⟨gb247, 0, none⟩ = some (.slice (some ad253) l0_0.length c0_0) ∧ w'.cell? ⟨gb247, 1, none⟩ = some (.slice (some ad251) l0_1.length c0_1) ∧ w'.cell? ⟨gb247, 2, none⟩ = some (.slice A0_2 l0_2.length c0_2) ∧ w'.cell? ⟨gb247, 3, none⟩ = some (.slice A0_3 l0_3.length c0_3) ∧ w'.cell? ⟨gb252, 0, none⟩ = some (.int .i64 ((rd_T123 l0_1 x37_2).f0)) ∧ w'.cell? ⟨gb252, 1, none⟩ = some (.slice A251_1 ((rd_T123 l0_1 x37_2).f1).length c251_1) ∧ w'.cell? ⟨gb252, 2, none⟩ = some (.slice A251_2 ((rd_T123 l0_1 x37_2).f2).length c251_2) ∧ w'.cell? ⟨gb252, 3, none⟩ = some (.int .i64 ((rd_T123 l0_1 x37_2).f3)) ∧ w'.cell? (ad253.add (x37_2).toNat) = some (.slice A253_0 (rd_L4 l0_0 x37_2).length c253_0) ∧ w'.cell? (ad253.add (x37_2).toNat) = some (.slice A255_0 (rd_L4 l0_0 x37_2).length c255_0)) (ds := []) (mk_ 26 0) (by kernel_rfl) rfl rfl ⟨(blk_cell BK247.out 0).trans rfl, (blk_cell BK247.out 1).trans rfl, (blk_cell BK247.out 2).trans rfl, (blk_cell BK247.out 3).trans rfl, (blk_cell BK252.out 0).trans rfl, (blk_cell BK252.out 1).trans rfl, (blk_cell BK252.out 2).trans rfl, (blk_cell BK252.out 3).trans rfl, (cB_ HB.out hw253_0 :), (cB_ HB.out hw255_0 :)⟩ (fun hHeld => ?_); refine with_tabW impl_MachineOk.tab6 impl_MachineOk.bits6 (fun HT_ HW_ => ?_)
             generalize w32.drew = w33 at BK247 BK252 HB HR253_0 HR255_0 hx253_0 hx255_0 hHeld ⊢
             refine pU_ 0 42 (mk_ 26 1) ?_
             refine pU_ 2 44 (mk_ 26 5) ?_
             refine tK10_ 1 43 (mk_ 26 7) ?_
             refine pU_ 3 45 (mk_ 26 15) ?_
             refine tK10_ 4 46 (mk_ 26 31) ?_
             refine oN_ 5 47 (mk_ 26 63) (fun K hK => ?_)
             refine gO_ Try.func136 #[.slice A253_0 (rd_L4 l0_0 x37_2).length c253_0] ?_
             with_reducible refine (impl_CodeOk.calls k2 _ _ (rd_L4 l0_0 x37_2) true _ ?side1 ?side2 A28.out).mono ?_
             (case side1 => exact cS_ (Kd.C_below HR253_0.out HB.out))
             (case side2 => exact HC253_0.out)
             rintro e w34 ⟨rfl, hb⟩
             refine ⟨_, rfl, ?_⟩
             replace BK247 := aM_ (nB_ BK247.out hb)
             replace BK252 := aM_ (nB_ BK252.out hb)
             replace HB := aM_ (sT_ HB.out hb)
             (try clear hb)
             (try clear hb2)
             (try clear hk)
             (try clear hi)
             refine kO_ hK (some 47) ⟨(blk_cell BK247.out 0).trans rfl, (blk_cell BK247.out 1).trans rfl, (blk_cell BK247.out 2).trans rfl, (blk_cell BK247.out 3).trans rfl, (blk_cell BK252.out 0).trans rfl, (blk_cell BK252.out 1).trans rfl, (blk_cell BK252.out 2).trans rfl, (blk_cell BK252.out 3).trans rfl, (cB_ HB.out hw253_0 :), (cB_ HB.out hw255_0 :)⟩ (fun hHeld => ?_)
             clear hK K
             refine pU_ 6 48 (mk_ 26 127) ?_
             refine pU_ 7 49 (mk_ 26 255) ?_
             refine pU_ 8 50 (mk_ 26 511) ?_
             refine tK10_ 9 51 (mk_ 26 1023) ?_
             refine pU_ 10 52 (mk_ 26 2047) ?_
             refine pU_ 11 53 (mk_ 26 4095) ?_
             refine pU_ 12 54 (mk_ 26 8191) ?_
             refine pU_ 13 55 (mk_ 26 16383) ?_
             refine pU_ 14 56 (mk_ 26 32767) ?_
             refine pU_ 16 58 (mk_ 26 98303) ?_
             refine pU_ 18 60 (mk_ 26 360447) ?_
             refine tK10_ 15 57 (mk_ 26 393215) ?_
             refine tK10_ 17 59 (mk_ 26 524287) ?_
             refine pU_ 19 61 (mk_ 26 1048575) ?_
             refine tK10_ 20 62 (mk_ 26 2097151) ?_
             refine pU_ 21 63 (mk_ 26 4194303) ?_
             refine pU_ 22 64 (mk_ 26 8388607) ?_
             refine oN_ 23 65 (mk_ 26 16777215) (fun K hK => ?_)
             refine gO_ Try.func106 #[.int .i64 ((rd_T123 l0_1 x37_2).f0), .int .i64 0, .int .i64 (wrap64 (((rd_L4 l0_0 x37_2).length : Int) - 1))] ?_
             with_reducible refine (impl_within.calls ((rd_T123 l0_1 x37_2).f0) 0 (wrap64 (((rd_L4 l0_0 x37_2).length : Int) - 1)) t256 _ A31.out).mono ?_
             rintro e w' ⟨rfl, ⟨nd, rfl⟩⟩
             refine ⟨_, rfl, ?_⟩
             refine kO_ hK (some 65) ⟨(blk_cell BK247.out 0).trans rfl, (blk_cell BK247.out 1).trans rfl, (blk_cell BK247.out 2).trans rfl, (blk_cell BK247.out 3).trans rfl, (blk_cell BK252.out 0).trans rfl, (blk_cell BK252.out 1).trans rfl, (blk_cell BK252.out 2).trans rfl, (blk_cell BK252.out 3).trans rfl, (cB_ HB.out hw253_0 :), (cB_ HB.out hw255_0 :)⟩ (fun hHeld => ?_)
             clear hK K
             refine pU_ 24 66 (mk_ 26 33554431) ?_
             refine pU_ 25 67 (mk_ 26 67108863) ?_
             refine done_ (done_of HT_.out (by kernel_rfl)) ?_
             try go_wp2
             go_meet
             case rel => exact ⟨_, (!t256), (by first | rfl | (simp; done) | (simp [*]; done)), H', ⟨by have := HJ1.out; have := HK2.out; first | omega | exact Nat.le_refl _⟩, ⟨rW_ BK247.out⟩, ⟨rW_ BK252.out⟩, ⟨gW_ HB.out⟩⟩
            ·rw [if_neg c30] at H
             have c30b0 : ((((rd_T123 l0_1 x37_2).f1).length : Int) == 8) = false := beq_eq_false_iff_ne.mpr c30
             have c30b1 : ((((rd_T123 l0_1 x37_2).f1).length : Int) != 8) = true := bne_iff_ne.mpr c30
             have H' := aM_ H
             clear H
             try go_wp2
             have n0 : Aside0 (((((w24.setCell ⟨gb252, 0, none⟩ (.int .i64 ((rd_T123 l0_1 x37_2).f0))).setCell ⟨gb252, 1, none⟩ (.slice A251_1 ((rd_T123 l0_1 x37_2).f1).length c251_1)).setCell ⟨gb252, 2, none⟩ (.slice A251_2 ((rd_T123 l0_1 x37_2).f2).length c251_2)).setCell ⟨gb252, 3, none⟩ (.int .i64 ((rd_T123 l0_1 x37_2).f3))).heap[gb247]? = some (.cells #[.slice A0_0 l0_0.length c0_0, .slice (some ad251) l0_1.length c0_1, .slice A0_2 l0_2.length c0_2, .slice A0_3 l0_3.length c0_3] 59 (0, 0))) := ⟨rWf_ BK247.out⟩
             have n1 : Aside0 (((((w24.setCell ⟨gb252, 0, none⟩ (.int .i64 ((rd_T123 l0_1 x37_2).f0))).setCell ⟨gb252, 1, none⟩ (.slice A251_1 ((rd_T123 l0_1 x37_2).f1).length c251_1)).setCell ⟨gb252, 2, none⟩ (.slice A251_2 ((rd_T123 l0_1 x37_2).f2).length c251_2)).setCell ⟨gb252, 3, none⟩ (.int .i64 ((rd_T123 l0_1 x37_2).f3))).heap[gb252]? = some (.cells #[.int .i64 ((rd_T123 l0_1 x37_2).f0), .slice A251_1 ((rd_T123 l0_1 x37_2).f1).length c251_1, .slice A251_2 ((rd_T123 l0_1 x37_2).f2).length c251_2, .int .i64 ((rd_T123 l0_1 x37_2).f3)] 123 (0, 0))) := ⟨by (with_reducible repeat (first | refine bN_ ?_ _ | refine bD_ ?_ | refine bA_ ?_ _)); refine blk_put (cs := #[.int .i64 ((rd_T123 l0_1 x37_2).f0), .slice A251_1 ((rd_T123 l0_1 x37_2).f1).length c251_1, .slice A251_2 ((rd_T123 l0_1 x37_2).f2).length c251_2, .int .i64 0]) ?_ 3 _ rfl; refine blk_put (cs := #[.int .i64 ((rd_T123 l0_1 x37_2).f0), .slice A251_1 ((rd_T123 l0_1 x37_2).f1).length c251_1, .slice none 0 0, .int .i64 0]) ?_ 2 _ rfl; refine blk_put (cs := #[.int .i64 ((rd_T123 l0_1 x37_2).f0), .slice none 0 0, .slice none 0 0, .int .i64 0]) ?_ 1 _ rfl; refine blk_put (cs := #[.int .i64 0, .slice none 0 0, .slice none 0 0, .int .i64 0]) ?_ 0 _ rfl; (with_reducible repeat (first | refine bN_ ?_ _ | refine bD_ ?_ | refine bA_ ?_ _)); exact BK252.out⟩
             have n2 : Aside0 (Below w.heap.size w ((((w24.setCell ⟨gb252, 0, none⟩ (.int .i64 ((rd_T123 l0_1 x37_2).f0))).setCell ⟨gb252, 1, none⟩ (.slice A251_1 ((rd_T123 l0_1 x37_2).f1).length c251_1)).setCell ⟨gb252, 2, none⟩ (.slice A251_2 ((rd_T123 l0_1 x37_2).f2).length c251_2)).setCell ⟨gb252, 3, none⟩ (.int .i64 ((rd_T123 l0_1 x37_2).f3)))) := ⟨gW_ HB.out⟩
             (try clear BK247)
             (try clear BK252)
             (try clear HB)
             generalize ((((w24.setCell ⟨gb252, 0, none⟩ (.int .i64 ((rd_T123 l0_1 x37_2).f0))).setCell ⟨gb252, 1, none⟩ (.slice A251_1 ((rd_T123 l0_1 x37_2).f1).length c251_1)).setCell ⟨gb252, 2, none⟩ (.slice A251_2 ((rd_T123 l0_1 x37_2).f2).length c251_2)).setCell ⟨gb252, 3, none⟩ (.int .i64 ((rd_T123 l0_1 x37_2).f3))) = w35 at n0 n1 n2 ⊢
             have BK247 := n0
             have BK252 := n1
             have HB := n2
             clear n0 n1 n2
             replace BK247 := aM_ (blk_drew BK247.out)
             replace BK252 := aM_ (blk_drew BK252.out)
             replace HB := aM_ (below_drew1 HB.out)
             have p253 : 0 ≤ (x37_2 : Int) := of_decide_eq_true (by first | (with_reducible assumption) | assumption)
             have q253 : x37_2 < (l0_0.length : Int) := of_decide_eq_true (by first | (with_reducible assumption) | assumption)
             obtain ⟨ad253, A253_0, c253_0, e253, hx253_0, hl253_0, hi253_0⟩ := at_L4 HR0_0.out x37_2 p253 q253
             have hw253_0 := hx253_0
             cases e253
             replace hx253_0 := cB_ HB.out hx253_0
             have HR253_0 := aM_ hi253_0
             have HC253_0 := aM_ hl253_0
             clear hi253_0 hl253_0
             replace p253 := eq_true p253
             replace q253 := eq_true q253
             refine start_ (n := 26) (S := fun w' => w'.cell? ⟨gb247, 0, none⟩ = some (.slice (some ad253) l0_0.length c0_0) ∧ w'.cell? ⟨gb247, 1, none⟩ = some (.slice (some ad251) l0_1.length c0_1) ∧ w'.cell? ⟨gb247, 2, none⟩ = some (.slice A0_2 l0_2.length c0_2) ∧ w'.cell? ⟨gb247, 3, none⟩ = some (.slice A0_3 l0_3.length c0_3) ∧ w'.cell? ⟨gb252, 0, none⟩ = some (.int .i64 ((rd_T123 l0_1 x37_2).f0)) ∧ w'.cell? ⟨gb252, 1, none⟩ = some (.slice A251_1 ((rd_T123 l0_1 x37_2).f1).length c251_1) ∧ w'.cell? ⟨gb252, 2, none⟩ = some (.slice A251_2 ((rd_T123 l0_1 x37_2).f2).length c251_2) ∧ w'.cell? ⟨gb252, 3, none⟩ = some (.int .i64 ((rd_T123 l0_1 x37_2).f3)) ∧ w'.cell? (ad253.add (x37_2).toNat) = some (.slice A253_0 (rd_L4 l0_0 x37_2).length c253_0)) (ds := []) (mk_ 26 0) (by kernel_rfl) rfl rfl ⟨(blk_cell BK247.out 0).trans rfl, (blk_cell BK247.out 1).trans rfl, (blk_cell BK247.out 2).trans rfl, (blk_cell BK247.out 3).trans rfl, (blk_cell BK252.out 0).trans rfl, (blk_cell BK252.out 1).trans rfl, (blk_cell BK252.out 2).trans rfl, (blk_cell BK252.out 3).trans rfl, (cB_ HB.out hw253_0 :)⟩ (fun hHeld => ?_); refine with_tabW impl_MachineOk.tab6 impl_MachineOk.bits6 (fun HT_ HW_ => ?_)
             generalize w35.drew = w36 at BK247 BK252 HB HR253_0 hx253_0 hHeld ⊢
             refine pU_ 0 42 (mk_ 26 1) ?_
             refine pU_ 2 44 (mk_ 26 5) ?_
             refine tK9_ 1 43 (mk_ 26 7) ?_
             refine pU_ 3 45 (mk_ 26 15) ?_
             refine tK9_ 4 46 (mk_ 26 31) ?_
             refine oN_ 5 47 (mk_ 26 63) (fun K hK => ?_)
             refine gO_ Try.func136 #[.slice A253_0 (rd_L4 l0_0 x37_2).length c253_0] ?_
             with_reducible refine (impl_CodeOk.calls k2 _ _ (rd_L4 l0_0 x37_2) true _ ?side1 ?side2 A28.out).mono ?_
             (case side1 => exact cS_ (Kd.C_below HR253_0.out HB.out))
             (case side2 => exact HC253_0.out)
             rintro e w37 ⟨rfl, hb⟩
             refine ⟨_, rfl, ?_⟩
             replace BK247 := aM_ (nB_ BK247.out hb)
             replace BK252 := aM_ (nB_ BK252.out hb)
             replace HB := aM_ (sT_ HB.out hb)
             (try clear hb)
             (try clear hb2)
             (try clear hk)
             (try clear hi)
             refine kO_ hK (some 47) ⟨(blk_cell BK247.out 0).trans rfl, (blk_cell BK247.out 1).trans rfl, (blk_cell BK247.out 2).trans rfl, (blk_cell BK247.out 3).trans rfl, (blk_cell BK252.out 0).trans rfl, (blk_cell BK252.out 1).trans rfl, (blk_cell BK252.out 2).trans rfl, (blk_cell BK252.out 3).trans rfl, (cB_ HB.out hw253_0 :)⟩ (fun hHeld => ?_)
             clear hK K
             refine pU_ 6 48 (mk_ 26 127) ?_
             refine pU_ 7 49 (mk_ 26 255) ?_
             refine pU_ 8 50 (mk_ 26 511) ?_
             refine tK9_ 9 51 (mk_ 26 1023) ?_
             refine pU_ 10 52 (mk_ 26 2047) ?_
             refine pU_ 11 53 (mk_ 26 4095) ?_
             refine pU_ 12 54 (mk_ 26 8191) ?_
             refine pU_ 13 55 (mk_ 26 16383) ?_
             refine pX_ 14 56 (mk_ 26 32767) ?_
             refine pX_ 15 57 (mk_ 26 65535) ?_
             refine pX_ 16 58 (mk_ 26 131071) ?_
             refine pX_ 17 59 (mk_ 26 262143) ?_
             refine pX_ 18 60 (mk_ 26 524287) ?_
             refine pX_ 19 61 (mk_ 26 1048575) ?_
             refine pX_ 20 62 (mk_ 26 2097151) ?_
             refine pX_ 21 63 (mk_ 26 4194303) ?_
             refine pX_ 22 64 (mk_ 26 8388607) ?_
             refine pX_ 23 65 (mk_ 26 16777215) ?_
             refine pX_ 24 66 (mk_ 26 33554431) ?_
             refine pU_ 25 67 (mk_ 26 67108863) ?_
             refine done_ (done_of HT_.out (by kernel_rfl)) ?_
             try go_wp2
             go_meet
             case rel => exact ⟨_, (true), (by first | rfl | (simp; done) | (simp [*]; done)), H', ⟨by have := HJ1.out; have := HK2.out; first | omega | exact Nat.le_refl _⟩, ⟨rW_ BK247.out⟩, ⟨rW_ BK252.out⟩, ⟨gW_ HB.out⟩⟩
           ·replace c29 := Bool.eq_false_iff.mpr c29
            subst c29
            have H1 : (impl_MachineOk.j2 k2 l0_1 (l0_1.length : Int) x37_2 true l0_0 l0_1 l0_2 l0_3 ((rd_T123 l0_1 x37_2).f0) ((rd_T123 l0_1 x37_2).f1) ((rd_T123 l0_1 x37_2).f2) ((rd_T123 l0_1 x37_2).f3)) = some r := by rw [if_neg (show ¬ (false = true) by decide)] at H; exact H
            clear H
            have H := H1
            clear H1
            have H' := aM_ H
            clear H
            try go_wp2
            have n0 : Aside0 (((((w24.setCell ⟨gb252, 0, none⟩ (.int .i64 ((rd_T123 l0_1 x37_2).f0))).setCell ⟨gb252, 1, none⟩ (.slice A251_1 ((rd_T123 l0_1 x37_2).f1).length c251_1)).setCell ⟨gb252, 2, none⟩ (.slice A251_2 ((rd_T123 l0_1 x37_2).f2).length c251_2)).setCell ⟨gb252, 3, none⟩ (.int .i64 ((rd_T123 l0_1 x37_2).f3))).heap[gb247]? = some (.cells #[.slice A0_0 l0_0.length c0_0, .slice (some ad251) l0_1.length c0_1, .slice A0_2 l0_2.length c0_2, .slice A0_3 l0_3.length c0_3] 59 (0, 0))) := ⟨rWf_ BK247.out⟩
            have n1 : Aside0 (((((w24.setCell ⟨gb252, 0, none⟩ (.int .i64 ((rd_T123 l0_1 x37_2).f0))).setCell ⟨gb252, 1, none⟩ (.slice A251_1 ((rd_T123 l0_1 x37_2).f1).length c251_1)).setCell ⟨gb252, 2, none⟩ (.slice A251_2 ((rd_T123 l0_1 x37_2).f2).length c251_2)).setCell ⟨gb252, 3, none⟩ (.int .i64 ((rd_T123 l0_1 x37_2).f3))).heap[gb252]? = some (.cells #[.int .i64 ((rd_T123 l0_1 x37_2).f0), .slice A251_1 ((rd_T123 l0_1 x37_2).f1).length c251_1, .slice A251_2 ((rd_T123 l0_1 x37_2).f2).length c251_2, .int .i64 ((rd_T123 l0_1 x37_2).f3)] 123 (0, 0))) := ⟨by (with_reducible repeat (first | refine bN_ ?_ _ | refine bD_ ?_ | refine bA_ ?_ _)); refine blk_put (cs := #[.int .i64 ((rd_T123 l0_1 x37_2).f0), .slice A251_1 ((rd_T123 l0_1 x37_2).f1).length c251_1, .slice A251_2 ((rd_T123 l0_1 x37_2).f2).length c251_2, .int .i64 0]) ?_ 3 _ rfl; refine blk_put (cs := #[.int .i64 ((rd_T123 l0_1 x37_2).f0), .slice A251_1 ((rd_T123 l0_1 x37_2).f1).length c251_1, .slice none 0 0, .int .i64 0]) ?_ 2 _ rfl; refine blk_put (cs := #[.int .i64 ((rd_T123 l0_1 x37_2).f0), .slice none 0 0, .slice none 0 0, .int .i64 0]) ?_ 1 _ rfl; refine blk_put (cs := #[.int .i64 0, .slice none 0 0, .slice none 0 0, .int .i64 0]) ?_ 0 _ rfl; (with_reducible repeat (first | refine bN_ ?_ _ | refine bD_ ?_ | refine bA_ ?_ _)); exact BK252.out⟩
            have n2 : Aside0 (Below w.heap.size w ((((w24.setCell ⟨gb252, 0, none⟩ (.int .i64 ((rd_T123 l0_1 x37_2).f0))).setCell ⟨gb252, 1, none⟩ (.slice A251_1 ((rd_T123 l0_1 x37_2).f1).length c251_1)).setCell ⟨gb252, 2, none⟩ (.slice A251_2 ((rd_T123 l0_1 x37_2).f2).length c251_2)).setCell ⟨gb252, 3, none⟩ (.int .i64 ((rd_T123 l0_1 x37_2).f3)))) := ⟨gW_ HB.out⟩
            (try clear BK247)
            (try clear BK252)
            (try clear HB)
            generalize ((((w24.setCell ⟨gb252, 0, none⟩ (.int .i64 ((rd_T123 l0_1 x37_2).f0))).setCell ⟨gb252, 1, none⟩ (.slice A251_1 ((rd_T123 l0_1 x37_2).f1).length c251_1)).setCell ⟨gb252, 2, none⟩ (.slice A251_2 ((rd_T123 l0_1 x37_2).f2).length c251_2)).setCell ⟨gb252, 3, none⟩ (.int .i64 ((rd_T123 l0_1 x37_2).f3))) = w38 at n0 n1 n2 ⊢
            have BK247 := n0
            have BK252 := n1
            have HB := n2
            clear n0 n1 n2
            replace BK247 := aM_ (blk_drew BK247.out)
            replace BK252 := aM_ (blk_drew BK252.out)
            replace HB := aM_ (below_drew1 HB.out)
            have p253 : 0 ≤ (x37_2 : Int) := of_decide_eq_true (by first | (with_reducible assumption) | assumption)
            have q253 : x37_2 < (l0_0.length : Int) := of_decide_eq_true (by first | (with_reducible assumption) | assumption)
            obtain ⟨ad253, A253_0, c253_0, e253, hx253_0, hl253_0, hi253_0⟩ := at_L4 HR0_0.out x37_2 p253 q253
            have hw253_0 := hx253_0
            cases e253
            replace hx253_0 := cB_ HB.out hx253_0
            have HR253_0 := aM_ hi253_0
            have HC253_0 := aM_ hl253_0
            clear hi253_0 hl253_0
            replace p253 := eq_true p253
            replace q253 := eq_true q253
            refine start_ (n := 26) (S := fun w' => w'.cell? ⟨gb247, 0, none⟩ = some (.slice (some ad253) l0_0.length c0_0) ∧ w'.cell? ⟨gb247, 1, none⟩ = some (.slice (some ad251) l0_1.length c0_1) ∧ w'.cell? ⟨gb247, 2, none⟩ = some (.slice A0_2 l0_2.length c0_2) ∧ w'.cell? ⟨gb247, 3, none⟩ = some (.slice A0_3 l0_3.length c0_3) ∧ w'.cell? (ad253.add (x37_2).toNat) = some (.slice A253_0 (rd_L4 l0_0 x37_2).length c253_0)) (ds := []) (mk_ 26 0) (by kernel_rfl) rfl rfl ⟨(blk_cell BK247.out 0).trans rfl, (blk_cell BK247.out 1).trans rfl, (blk_cell BK247.out 2).trans rfl, (blk_cell BK247.out 3).trans rfl, (cB_ HB.out hw253_0 :)⟩ (fun hHeld => ?_); refine with_tabW impl_MachineOk.tab6 impl_MachineOk.bits6 (fun HT_ HW_ => ?_)
            generalize w38.drew = w39 at BK247 BK252 HB HR253_0 hx253_0 hHeld ⊢
            refine pU_ 0 42 (mk_ 26 1) ?_
            refine pU_ 2 44 (mk_ 26 5) ?_
            refine tK5_ 1 43 (mk_ 26 7) ?_
            refine pU_ 3 45 (mk_ 26 15) ?_
            refine tK5_ 4 46 (mk_ 26 31) ?_
            refine oN_ 5 47 (mk_ 26 63) (fun K hK => ?_)
            refine gO_ Try.func136 #[.slice A253_0 (rd_L4 l0_0 x37_2).length c253_0] ?_
            with_reducible refine (impl_CodeOk.calls k2 _ _ (rd_L4 l0_0 x37_2) false _ ?side1 ?side2 A28.out).mono ?_
            (case side1 => exact cS_ (Kd.C_below HR253_0.out HB.out))
            (case side2 => exact HC253_0.out)
            rintro e w40 ⟨rfl, hb⟩
            refine ⟨_, rfl, ?_⟩
            replace BK247 := aM_ (nB_ BK247.out hb)
            replace BK252 := aM_ (nB_ BK252.out hb)
            replace HB := aM_ (sT_ HB.out hb)
            (try clear hb)
            (try clear hb2)
            (try clear hk)
            (try clear hi)
            refine kO_ hK (some 47) ⟨(blk_cell BK247.out 0).trans rfl, (blk_cell BK247.out 1).trans rfl, (blk_cell BK247.out 2).trans rfl, (blk_cell BK247.out 3).trans rfl, (cB_ HB.out hw253_0 :)⟩ (fun hHeld => ?_)
            clear hK K
            refine pU_ 6 48 (mk_ 26 127) ?_
            refine pU_ 7 49 (mk_ 26 255) ?_
            refine pX_ 8 50 (mk_ 26 511) ?_
            refine pX_ 9 51 (mk_ 26 1023) ?_
            refine pX_ 10 52 (mk_ 26 2047) ?_
            refine pX_ 11 53 (mk_ 26 4095) ?_
            refine pU_ 12 54 (mk_ 26 8191) ?_
            refine pU_ 13 55 (mk_ 26 16383) ?_
            refine pX_ 14 56 (mk_ 26 32767) ?_
            refine pX_ 15 57 (mk_ 26 65535) ?_
            refine pX_ 16 58 (mk_ 26 131071) ?_
            refine pX_ 17 59 (mk_ 26 262143) ?_
            refine pX_ 18 60 (mk_ 26 524287) ?_
            refine pX_ 19 61 (mk_ 26 1048575) ?_
            refine pX_ 20 62 (mk_ 26 2097151) ?_
            refine pX_ 21 63 (mk_ 26 4194303) ?_
            refine pX_ 22 64 (mk_ 26 8388607) ?_
            refine pX_ 23 65 (mk_ 26 16777215) ?_
            refine pX_ 24 66 (mk_ 26 33554431) ?_
            refine pU_ 25 67 (mk_ 26 67108863) ?_
            refine done_ (done_of HT_.out (by kernel_rfl)) ?_
            try go_wp2
            go_meet
            case rel => exact ⟨_, (true), (by first | rfl | (simp; done) | (simp [*]; done)), H', ⟨by have := HJ1.out; have := HK2.out; first | omega | exact Nat.le_refl _⟩, ⟨rW_ BK247.out⟩, ⟨rW_ BK252.out⟩, ⟨gW_ HB.out⟩⟩
          ·rw [if_neg c27] at H
           exact absurd H (by simp)
         case rest =>
          clear HC23
          try clear c1
          try clear c2
          try clear p2
          try clear q2
          try clear hx2
          try clear c3
          try clear p6
          try clear c10
          try clear c13
          try clear c25
          try clear p25
          try clear q25
          try clear hx25
          try clear c27
          try clear c29
          try clear c30
          try clear c30b0
          try clear c30b1
          try clear hx253_0
          try clear p253
          try clear q253
          obtain ⟨kq, x67_22, rfl, HA, HJ22, BK247, BK252, HB⟩ := hcut
          cases kq with
          | zero => exact absurd HA.out (by simp [impl_MachineOk.j2])
          | succ kj22 =>
           have H := HA.out
           clear HA
           simp only [impl_MachineOk.j2] at H
           by_cases c41 : x67_22 = true
           ·subst c41
            have H1 : (some false) = some r := by rw [if_pos rfl] at H; exact H
            clear H
            have H := H1
            clear H1
            obtain rfl := Option.some.inj H
            go_wp2
            go_ret
            exact fI_ HB.out
           ·replace c41 := Bool.eq_false_iff.mpr c41
            subst c41
            have H1 : ((impl_within.f ((rd_T123 l0_1 x37_2).f3) 0 2).bind fun t257 => (if t257 = true then ((impl_ViewOk.f kj22 l0_2 ((rd_T123 l0_1 x37_2).f2)).bind fun t258 => (if t258 = true then (impl_MachineOk.l0 kj22 l0_1 (l0_1.length : Int) (wrap64 (x37_2 + 1)) l0_0 l0_1 l0_2 l0_3) else (some false))) else (some false))) = some r := by rw [if_neg (show ¬ (false = true) by decide)] at H; exact H
            clear H
            have H := H1
            clear H1
            replace H := Option.bind_eq_some_iff.mp H
            obtain ⟨t257, A420, H⟩ := H
            replace H : (if t257 = true then ((impl_ViewOk.f kj22 l0_2 ((rd_T123 l0_1 x37_2).f2)).bind fun t258 => (if t258 = true then (impl_MachineOk.l0 kj22 l0_1 (l0_1.length : Int) (wrap64 (x37_2 + 1)) l0_0 l0_1 l0_2 l0_3) else (some false))) else (some false)) = some r := H
            have A42 := aM_ A420
            clear A420
            by_cases c43 : t257 = true
            ·subst c43
             have H1 : ((impl_ViewOk.f kj22 l0_2 ((rd_T123 l0_1 x37_2).f2)).bind fun t258 => (if t258 = true then (impl_MachineOk.l0 kj22 l0_1 (l0_1.length : Int) (wrap64 (x37_2 + 1)) l0_0 l0_1 l0_2 l0_3) else (some false))) = some r := by rw [if_pos rfl] at H; exact H
             clear H
             have H := H1
             clear H1
             replace H := Option.bind_eq_some_iff.mp H
             obtain ⟨t258, A440, H⟩ := H
             replace H : (if t258 = true then (impl_MachineOk.l0 kj22 l0_1 (l0_1.length : Int) (wrap64 (x37_2 + 1)) l0_0 l0_1 l0_2 l0_3) else (some false)) = some r := H
             have A44 := aM_ A440
             clear A440
             by_cases c45 : t258 = true
             ·subst c45
              have H1 : (impl_MachineOk.l0 kj22 l0_1 (l0_1.length : Int) (wrap64 (x37_2 + 1)) l0_0 l0_1 l0_2 l0_3) = some r := by rw [if_pos rfl] at H; exact H
              clear H
              have H := H1
              clear H1
              have H' := aM_ H
              clear H
              have hnb46 := NB252_247.out
              have hnc46 := NB247_252.out
              have z_47 := bR4_ BK252.out
              go_wp2_with (first | ((with_reducible refine gate_callee (f := 106) rfl ?_); refine gL_ (some 70) Try.func106 #[.int .i64 ((rd_T123 l0_1 x37_2).f3), .int .i64 0, .int .i64 2] ?_; (with_reducible refine (impl_within.calls ((rd_T123 l0_1 x37_2).f3) 0 2 true _ A42.out).mono ?_); rintro e w' ⟨rfl, ⟨nd, rfl⟩⟩; refine ⟨_, rfl, ?_⟩; have z_48 := bR4_ BK247.out) | (go_at_call 137; (with_reducible refine (impl_ViewOk.calls kj22 _ _ l0_2 _ _ ((rd_T123 l0_1 x37_2).f2) true _ ?side1 ?side2 ?side3 ?side4 A44.out).mono ?_); (case side1 => exact cS_ (Kd.C_below HR0_2.out (gB_ HB.out))); (case side2 => exact HC0_2.out); (case side3 => exact cS_ (Kd.C_below HR251_2.out (gB_ HB.out))); (case side4 => exact HC251_2.out); rintro e w49 ⟨rfl, hb⟩; replace BK247 := aM_ (nB_ BK247.out hb); replace BK252 := aM_ (nB_ BK252.out hb); replace HB := aM_ (sT_ HB.out hb)))
              go_roundg kj22
              case measure => have := HJ1.out; have := HK2.out; have := HJ22.out; omega
              case rel => exact ⟨(wrap64 (x37_2 + 1)), (by first | rfl | (simp; done) | (simp [*]; done)), H', ⟨by have := HJ1.out; have := HK2.out; have := HJ22.out; omega⟩, ⟨rW_ BK247.out⟩, ⟨gW_ HB.out⟩⟩
             ·replace c45 := Bool.eq_false_iff.mpr c45
              subst c45
              have H1 : (some false) = some r := by rw [if_neg (show ¬ (false = true) by decide)] at H; exact H
              clear H
              have H := H1
              clear H1
              obtain rfl := Option.some.inj H
              have hnb50 := NB252_247.out
              have hnc50 := NB247_252.out
              have z_51 := bR4_ BK252.out
              go_wp2_with (first | ((with_reducible refine gate_callee (f := 106) rfl ?_); refine gL_ (some 70) Try.func106 #[.int .i64 ((rd_T123 l0_1 x37_2).f3), .int .i64 0, .int .i64 2] ?_; (with_reducible refine (impl_within.calls ((rd_T123 l0_1 x37_2).f3) 0 2 true _ A42.out).mono ?_); rintro e w' ⟨rfl, ⟨nd, rfl⟩⟩; refine ⟨_, rfl, ?_⟩; have z_52 := bR4_ BK247.out) | (go_at_call 137; (with_reducible refine (impl_ViewOk.calls kj22 _ _ l0_2 _ _ ((rd_T123 l0_1 x37_2).f2) false _ ?side1 ?side2 ?side3 ?side4 A44.out).mono ?_); (case side1 => exact cS_ (Kd.C_below HR0_2.out (gB_ HB.out))); (case side2 => exact HC0_2.out); (case side3 => exact cS_ (Kd.C_below HR251_2.out (gB_ HB.out))); (case side4 => exact HC251_2.out); rintro e w53 ⟨rfl, hb⟩; replace BK247 := aM_ (nB_ BK247.out hb); replace BK252 := aM_ (nB_ BK252.out hb); replace HB := aM_ (sT_ HB.out hb)))
              go_ret
              exact fI_ HB.out
            ·replace c43 := Bool.eq_false_iff.mpr c43
             subst c43
             have H1 : (some false) = some r := by rw [if_neg (show ¬ (false = true) by decide)] at H; exact H
             clear H
             have H := H1
             clear H1
             obtain rfl := Option.some.inj H
             have hnb54 := NB252_247.out
             have hnc54 := NB247_252.out
             have z_55 := bR4_ BK252.out
             go_wp2_with (first | ((with_reducible refine gate_callee (f := 106) rfl ?_); refine gL_ (some 70) Try.func106 #[.int .i64 ((rd_T123 l0_1 x37_2).f3), .int .i64 0, .int .i64 2] ?_; (with_reducible refine (impl_within.calls ((rd_T123 l0_1 x37_2).f3) 0 2 false _ A42.out).mono ?_); rintro e w' ⟨rfl, ⟨nd, rfl⟩⟩; refine ⟨_, rfl, ?_⟩))
             go_ret
             exact fI_ HB.out
        ·rw [if_neg c22] at H
         exact absurd H (by simp)
       ·rw [if_neg c21] at H
        exact absurd H (by simp)
      ·rw [if_neg c20] at H
       have c20b0 : decide (x37_2 < (l0_1.length : Int)) = false := decide_eq_false c20
       clear c20
       obtain rfl := Option.some.inj H
       go_wp2
       go_ret
       exact fI_ HB.out
end Go.Proofs.Ytobachfngmpeiaa.PFnExactMachineNew
