/- A part of the proof that the law FnExactMachineOk holds for every input: the words, functions and walks that its row needs, without a condition of their own. -/
import Derived.Test.YtfaoipojijhlbaaZFnExactMachineOka2
import Derived.Test.YtfaoipojijhlbaaZFnExactMachineOka8
import Derived.Test.YtfaoipojijhlbaaZFnExactMachineOka10
import Derived.Test.YtfaoipojijhlbaaZFnExactMachineOks
namespace Go.Proofs.Ytfaoipojijhlbaa.PFnExactMachineOk
open Go.RowKit Go.Proofs.YtfaoipojijhlbaaW.PrintWords Go.Proofs.YtfaoipojijhlbaaW.PrintLast Go.Proofs.YtfaoipojijhlbaaW.PrintMore
attribute [local go_sem] max2_int min2_int max_two min_two max_three min_three max_four min_four   -- for this text's walks alone
set_option linter.unusedVariables false
set_option linter.unusedSimpArgs false
mutual
def impl_MachineOk.j0 : Nat → Bool → List (List (S145)) → List (S106) → List (List (S119)) → List (S93) → Option (Bool)
  | 0, _, _, _, _, _ => none
  | k + 1, x33, x294000, x294001, x294002, x294003 => if x33 = true then (some false) else (impl_MachineOk.l0 k x294001 (x294001.length : Int) 0 x294000 x294001 x294002 x294003)
def impl_MachineOk.l0 : Nat → List (S106) → Int → Int → List (List (S145)) → List (S106) → List (List (S119)) → List (S93) → Option (Bool)
  | 0, _, _, _, _, _, _, _ => none
  | k + 1, x35, x36, x37, x294000, x294001, x294002, x294003 => if x37 < x36 then (if 0 ≤ x37 then (if x37 < (x35.length : Int) then (if x37 < (x294000.length : Int) then ((impl_CodeOk.f k (rd_L12 x294000 x37)).bind fun t300 => (if t300 = true then (if (((rd_T106 x35 x37).f1).length : Int) = 8 then ((impl_within.f ((rd_T106 x35 x37).f0) 0 (wrap64 (((rd_L12 x294000 x37).length : Int) - 1))).bind fun t302 => (impl_MachineOk.j2 k x35 x36 x37 (!t302) x294000 x294001 x294002 x294003 ((rd_T106 x35 x37).f0) ((rd_T106 x35 x37).f1) ((rd_T106 x35 x37).f2) ((rd_T106 x35 x37).f3))) else (impl_MachineOk.j2 k x35 x36 x37 true x294000 x294001 x294002 x294003 ((rd_T106 x35 x37).f0) ((rd_T106 x35 x37).f1) ((rd_T106 x35 x37).f2) ((rd_T106 x35 x37).f3))) else (impl_MachineOk.j2 k x35 x36 x37 true x294000 x294001 x294002 x294003 ((rd_T106 x35 x37).f0) ((rd_T106 x35 x37).f1) ((rd_T106 x35 x37).f2) ((rd_T106 x35 x37).f3)))) else (none)) else (none)) else (none)) else (some true)
def impl_MachineOk.j2 : Nat → List (S106) → Int → Int → Bool → List (List (S145)) → List (S106) → List (List (S119)) → List (S93) → Int → List Int → List Int → Int → Option (Bool)
  | 0, _, _, _, _, _, _, _, _, _, _, _, _ => none
  | k + 1, x35, x36, x37, x67, x294000, x294001, x294002, x294003, x299000, x299001, x299002, x299003 => if x67 = true then (some false) else ((impl_within.f x299003 0 2).bind fun t303 => (if t303 = true then ((impl_ViewOk.f k x294002 x299002).bind fun t304 => (if t304 = true then (impl_MachineOk.l0 k x35 x36 (wrap64 (x37 + 1)) x294000 x294001 x294002 x294003) else (some false))) else (some false)))
end
def impl_MachineOk.f (k : Nat) (l0_0 : List (List (S145))) (l0_1 : List (S106)) (l0_2 : List (List (S119))) (l0_3 : List (S93)) : Option (Bool) := (impl_within.f (l0_0.length : Int) 1 4).bind fun t294 => (if t294 = true then (if (l0_1.length : Int) = (l0_0.length : Int) then ((impl_MemoryOk.f k l0_2).bind fun t295 => (if t295 = true then ((impl_notesOk.f k l0_3 (l0_1.length : Int)).bind fun t296 => (impl_MachineOk.j0 k (!t296) l0_0 l0_1 l0_2 l0_3)) else (impl_MachineOk.j0 k true l0_0 l0_1 l0_2 l0_3))) else (impl_MachineOk.j0 k true l0_0 l0_1 l0_2 l0_3)) else (impl_MachineOk.j0 k true l0_0 l0_1 l0_2 l0_3))
def impl_MachineOk.T6 : Bool × List (List Nat × List Nat) := (true, [([], []), ([0], [0]), ([], []), ([1, 2], [1, 2]), ([3], [3]), ([4], [4]), ([5], [5]), ([6, 5], [6]), ([7], [7]), ([8, 7], [7, 8]), ([9, 7], [7, 9]), ([10, 7], [7, 10]), ([7, 11], [7, 11]), ([12, 7], [12]), ([13], [13]), ([14, 13], [13, 14]), ([13], [13]), ([16, 13], [13, 16]), ([13], [13]), ([17, 18, 13], [13, 17, 18]), ([19, 13], [13, 19]), ([20, 13], [13, 20]), ([21, 13], [13, 21]), ([15, 22, 13, 13], [13, 15, 22]), ([23, 13], [13, 23]), ([13, 24], [13, 24])])
def impl_MachineOk.B6 : List Nat := [0, 1, 0, 7, 15, 31, 63, 127, 255, 511, 1023, 2047, 4095, 8191, 16383, 32767, 16383, 81919, 16383, 475135, 999423, 2047999, 4145151, 8388607, 16777215, 33554431]
theorem impl_MachineOk.tab6 : rtab .any (opsOf Try.f24 6) = impl_MachineOk.T6 := by kernel_rfl
theorem impl_MachineOk.bits6 : waitsOk impl_MachineOk.T6.2 impl_MachineOk.B6 = true := by kernel_rfl
set_option maxHeartbeats 8000000 in
set_option maxRecDepth 100000 in
theorem impl_MachineOk.calls (k : Nat) (A0_0 : Option Addr) (c0_0 : Nat) (l0_0 : List (List (S145))) (A0_1 : Option Addr) (c0_1 : Nat) (l0_1 : List (S106)) (A0_2 : Option Addr) (c0_2 : Nat) (l0_2 : List (List (S119))) (A0_3 : Option Addr) (c0_3 : Nat) (l0_3 : List (S93)) (r : Bool) (w : World) (hr0_0 : Kd.C (Kd.slice 145 k145) w A0_0 l0_0.length l0_0) (hc0_0 : l0_0.length ≤ c0_0) (hr0_1 : Kd.C k106 w A0_1 l0_1.length l0_1) (hc0_1 : l0_1.length ≤ c0_1) (hr0_2 : Kd.C (Kd.slice 119 k119) w A0_2 l0_2.length l0_2) (hc0_2 : l0_2.length ≤ c0_2) (hr0_3 : Kd.C k93 w A0_3 l0_3.length l0_3) (hc0_3 : l0_3.length ≤ c0_3) (h : impl_MachineOk.f k l0_0 l0_1 l0_2 l0_3 = some r) :
  Calls Try.prog 24 #[.agg #[.slice A0_0 l0_0.length c0_0, .slice A0_1 l0_1.length c0_1, .slice A0_2 l0_2.length c0_2, .slice A0_3 l0_3.length c0_3]] w fun e w' => e = .returned (.bool r) ∧ Below w.heap.size w w' := by
 have hu69 := Try.underlying69
 have hu30 := Try.underlying30
 have hu106 := Try.underlying106
 have HR0_0 := aM_ hr0_0
 have HC0_0 := aM_ hc0_0
 clear hr0_0 hc0_0
 have HR0_1 := aM_ hr0_1
 have HC0_1 := aM_ hc0_1
 clear hr0_1 hc0_1
 have HR0_2 := aM_ hr0_2
 have HC0_2 := aM_ hc0_2
 clear hr0_2 hc0_2
 have HR0_3 := aM_ hr0_3
 have HC0_3 := aM_ hc0_3
 clear hr0_3 hc0_3
 have HB := aM_ (Below.refl w.heap.size w)
 have H : ((impl_within.f (l0_0.length : Int) 1 4).bind fun t294 => (if t294 = true then (if (l0_1.length : Int) = (l0_0.length : Int) then ((impl_MemoryOk.f k l0_2).bind fun t295 => (if t295 = true then ((impl_notesOk.f k l0_3 (l0_1.length : Int)).bind fun t296 => (impl_MachineOk.j0 k (!t296) l0_0 l0_1 l0_2 l0_3)) else (impl_MachineOk.j0 k true l0_0 l0_1 l0_2 l0_3))) else (impl_MachineOk.j0 k true l0_0 l0_1 l0_2 l0_3)) else (impl_MachineOk.j0 k true l0_0 l0_1 l0_2 l0_3))) = some r := h
 clear h
 have HC2 := aM_ H
 clear H
 go_enter Try.func24, Try.ntmps24
 go_upto_region 1 with (first | ((with_reducible refine gate_dst (N := 1) rfl ?_); (try (refine gate_guard (by rfl) ?_; dsimp only)); refine bX_ 1 (cs := #[.slice A0_0 l0_0.length c0_0, .slice A0_1 l0_1.length c0_1, .slice A0_2 l0_2.length c0_2, .slice A0_3 l0_3.length c0_3]) (t := 69) ?_; intro gb293 hg w3 hbox hb; have n0 := aM_ (sT_ HB.out hb); have n1 := aM_ (hbox); have n2 := aM_ (sZ_ hg HB.out); have n3 := aM_ (sZ_ hg HB.out); clear HB; have HB := n0; have BK293 := n1; have GW293 := n2; have GE293 := n3; clear n0 n1 n2 n3; clear hb hbox hg))
 (try simp only [Act.put, List.setIfInBounds_toArray, List.set_cons_zero, List.set_cons_succ])
 go_cut [33] (fun v33 wc => ∃ (kq : Nat) (x33_1 : Bool), v33 = .bool x33_1 ∧ Aside0 (impl_MachineOk.j0 kq x33_1 l0_0 l0_1 l0_2 l0_3 = some r) ∧ Aside0 (kq ≤ k) ∧ Aside0 (wc.heap[gb293]? = some (.cells #[(.slice A0_0 l0_0.length c0_0), (.slice A0_1 l0_1.length c0_1), (.slice A0_2 l0_2.length c0_2), (.slice A0_3 l0_3.length c0_3)] 69 (0, 0))) ∧ Aside0 (Below w.heap.size w wc))
 case first =>
  have H := HC2.out
  clear HC2
  replace H := Option.bind_eq_some_iff.mp H
  obtain ⟨t294, A40, H⟩ := H
  replace H : (if t294 = true then (if (l0_1.length : Int) = (l0_0.length : Int) then ((impl_MemoryOk.f k l0_2).bind fun t295 => (if t295 = true then ((impl_notesOk.f k l0_3 (l0_1.length : Int)).bind fun t296 => (impl_MachineOk.j0 k (!t296) l0_0 l0_1 l0_2 l0_3)) else (impl_MachineOk.j0 k true l0_0 l0_1 l0_2 l0_3))) else (impl_MachineOk.j0 k true l0_0 l0_1 l0_2 l0_3)) else (impl_MachineOk.j0 k true l0_0 l0_1 l0_2 l0_3)) = some r := H
  have A4 := aM_ A40
  clear A40
  by_cases c5 : t294 = true
  ·subst c5
   have H1 : (if (l0_1.length : Int) = (l0_0.length : Int) then ((impl_MemoryOk.f k l0_2).bind fun t295 => (if t295 = true then ((impl_notesOk.f k l0_3 (l0_1.length : Int)).bind fun t296 => (impl_MachineOk.j0 k (!t296) l0_0 l0_1 l0_2 l0_3)) else (impl_MachineOk.j0 k true l0_0 l0_1 l0_2 l0_3))) else (impl_MachineOk.j0 k true l0_0 l0_1 l0_2 l0_3)) = some r := by rw [if_pos rfl] at H; exact H
   clear H
   have H := H1
   clear H1
   by_cases c6 : (l0_1.length : Int) = (l0_0.length : Int)
   ·rw [if_pos c6] at H
    have c6b0 : ((l0_1.length : Int) == (l0_0.length : Int)) = true := beq_iff_eq.mpr c6
    have c6b1 : ((l0_1.length : Int) != (l0_0.length : Int)) = false := bne_eq_false_iff_eq.mpr c6
    have c6b2 : (l0_1.length == l0_0.length) = true := by first | simpa using c6 | (simp at c6 ⊢; omega)
    clear c6
    (first | rw [c6b0] | (simp only [i64_w, i32_w]; rw [c6b0]) | skip)
    replace H := Option.bind_eq_some_iff.mp H
    obtain ⟨t295, A70, H⟩ := H
    replace H : (if t295 = true then ((impl_notesOk.f k l0_3 (l0_1.length : Int)).bind fun t296 => (impl_MachineOk.j0 k (!t296) l0_0 l0_1 l0_2 l0_3)) else (impl_MachineOk.j0 k true l0_0 l0_1 l0_2 l0_3)) = some r := H
    have A7 := aM_ A70
    clear A70
    by_cases c8 : t295 = true
    ·subst c8
     have H1 : ((impl_notesOk.f k l0_3 (l0_1.length : Int)).bind fun t296 => (impl_MachineOk.j0 k (!t296) l0_0 l0_1 l0_2 l0_3)) = some r := by rw [if_pos rfl] at H; exact H
     clear H
     have H := H1
     clear H1
     replace H := Option.bind_eq_some_iff.mp H
     obtain ⟨t296, A90, H⟩ := H
     replace H : (impl_MachineOk.j0 k (!t296) l0_0 l0_1 l0_2 l0_3) = some r := H
     have A9 := aM_ A90
     clear A90
     have H' := aM_ H
     clear H
     obtain ⟨hcz10_0, hcz10_1, hcz10_2, hcz10_3, hfz10_0, hfz10_1, hfz10_2, hfz10_3⟩ := bR4_ BK293.out
     go_wp2_with (first | ((with_reducible refine gate_callee (f := 49) rfl ?_); refine gL_ (some 8) Try.func49 #[.int .i64 (l0_0.length : Int), .int .i64 1, .int .i64 4] ?_; (with_reducible refine (impl_within.calls (l0_0.length : Int) 1 4 true _ A4.out).mono ?_); rintro e w' ⟨rfl, ⟨nd, rfl⟩⟩; refine ⟨_, rfl, ?_⟩) | (go_at_call 32; (with_reducible refine (impl_MemoryOk.calls k _ _ l0_2 true _ ?side1 ?side2 A7.out).mono ?_); (case side1 => exact cS_ (Kd.C_below HR0_2.out (by repeat (first | (with_reducible first | exact HB.out | apply hA_ | apply hN_ | apply hD_ | refine below_set ?_ GE293.out) | exact HB.out)))); (case side2 => exact HC0_2.out); rintro e w11 ⟨rfl, hb⟩; have n0 := aM_ (nB_ BK293.out hb); have n1 := aM_ (sT_ HB.out hb); clear BK293; clear HB; have BK293 := n0; have HB := n1; clear n0 n1; obtain ⟨hcz12_0, hcz12_1, hcz12_2, hcz12_3, hfz12_0, hfz12_1, hfz12_2, hfz12_3⟩ := bR4_ BK293.out) | (go_at_call 48; (with_reducible refine (impl_notesOk.calls k _ _ l0_3 (l0_1.length : Int) t296 _ ?side1 ?side2 A9.out).mono ?_); (case side1 => exact cS_ (Kd.C_below HR0_3.out HB.out)); (case side2 => exact HC0_3.out); rintro e w13 ⟨rfl, hb⟩; have n0 := aM_ (nB_ BK293.out hb); have n1 := aM_ (sT_ HB.out hb); clear BK293; clear HB; have BK293 := n0; have HB := n1; clear n0 n1))
     go_meet
     case rel => exact ⟨_, (!t296), (by first | rfl | (simp; done) | (simp [*]; done)), H', ⟨by first | omega | exact Nat.le_refl _⟩, ⟨rW_ BK293.out⟩, ⟨gW_ HB.out⟩⟩
    ·replace c8 := Bool.eq_false_iff.mpr c8
     subst c8
     have H1 : (impl_MachineOk.j0 k true l0_0 l0_1 l0_2 l0_3) = some r := by rw [if_neg (show ¬ (false = true) by decide)] at H; exact H
     clear H
     have H := H1
     clear H1
     have H' := aM_ H
     clear H
     obtain ⟨hcz14_0, hcz14_1, hcz14_2, hcz14_3, hfz14_0, hfz14_1, hfz14_2, hfz14_3⟩ := bR4_ BK293.out
     go_wp2_with (first | ((with_reducible refine gate_callee (f := 49) rfl ?_); refine gL_ (some 8) Try.func49 #[.int .i64 (l0_0.length : Int), .int .i64 1, .int .i64 4] ?_; (with_reducible refine (impl_within.calls (l0_0.length : Int) 1 4 true _ A4.out).mono ?_); rintro e w' ⟨rfl, ⟨nd, rfl⟩⟩; refine ⟨_, rfl, ?_⟩) | (go_at_call 32; (with_reducible refine (impl_MemoryOk.calls k _ _ l0_2 false _ ?side1 ?side2 A7.out).mono ?_); (case side1 => exact cS_ (Kd.C_below HR0_2.out (by repeat (first | (with_reducible first | exact HB.out | apply hA_ | apply hN_ | apply hD_ | refine below_set ?_ GE293.out) | exact HB.out)))); (case side2 => exact HC0_2.out); rintro e w15 ⟨rfl, hb⟩; have n0 := aM_ (nB_ BK293.out hb); have n1 := aM_ (sT_ HB.out hb); clear BK293; clear HB; have BK293 := n0; have HB := n1; clear n0 n1))
     go_meet
     case rel => exact ⟨_, (true), (by first | rfl | (simp; done) | (simp [*]; done)), H', ⟨by first | omega | exact Nat.le_refl _⟩, ⟨rW_ BK293.out⟩, ⟨gW_ HB.out⟩⟩
   ·rw [if_neg c6] at H
    have c6b0 : ((l0_1.length : Int) == (l0_0.length : Int)) = false := beq_eq_false_iff_ne.mpr c6
    have c6b1 : ((l0_1.length : Int) != (l0_0.length : Int)) = true := bne_iff_ne.mpr c6
    have c6b2 : (l0_1.length == l0_0.length) = false := by first | simpa using c6 | (simp at c6 ⊢; omega)
    (first | rw [c6b0] | (simp only [i64_w, i32_w]; rw [c6b0]) | skip)
    have H' := aM_ H
    clear H
    obtain ⟨hcz16_0, hcz16_1, hcz16_2, hcz16_3, hfz16_0, hfz16_1, hfz16_2, hfz16_3⟩ := bR4_ BK293.out
    go_wp2_with (first | ((with_reducible refine gate_callee (f := 49) rfl ?_); refine gL_ (some 8) Try.func49 #[.int .i64 (l0_0.length : Int), .int .i64 1, .int .i64 4] ?_; (with_reducible refine (impl_within.calls (l0_0.length : Int) 1 4 true _ A4.out).mono ?_); rintro e w' ⟨rfl, ⟨nd, rfl⟩⟩; refine ⟨_, rfl, ?_⟩))
    go_meet
    case rel => exact ⟨_, (true), (by first | rfl | (simp; done) | (simp [*]; done)), H', ⟨by first | omega | exact Nat.le_refl _⟩, ⟨rW_ BK293.out⟩, ⟨gW_ HB.out⟩⟩
  ·replace c5 := Bool.eq_false_iff.mpr c5
   subst c5
   have H1 : (impl_MachineOk.j0 k true l0_0 l0_1 l0_2 l0_3) = some r := by rw [if_neg (show ¬ (false = true) by decide)] at H; exact H
   clear H
   have H := H1
   clear H1
   have H' := aM_ H
   clear H
   obtain ⟨hcz17_0, hcz17_1, hcz17_2, hcz17_3, hfz17_0, hfz17_1, hfz17_2, hfz17_3⟩ := bR4_ BK293.out
   go_wp2_with (first | ((with_reducible refine gate_callee (f := 49) rfl ?_); refine gL_ (some 8) Try.func49 #[.int .i64 (l0_0.length : Int), .int .i64 1, .int .i64 4] ?_; (with_reducible refine (impl_within.calls (l0_0.length : Int) 1 4 false _ A4.out).mono ?_); rintro e w' ⟨rfl, ⟨nd, rfl⟩⟩; refine ⟨_, rfl, ?_⟩))
   go_meet
   case rel => exact ⟨_, (true), (by first | rfl | (simp; done) | (simp [*]; done)), H', ⟨by first | omega | exact Nat.le_refl _⟩, ⟨rW_ BK293.out⟩, ⟨gW_ HB.out⟩⟩
 case rest =>
  clear HC2
  try clear c2
  try clear p2
  try clear c4
  try clear c5
  try clear c6
  try clear c6b0
  try clear c6b1
  try clear c6b2
  try clear c8
  try clear hcz10_0
  try clear hcz10_1
  try clear hcz10_2
  try clear hcz10_3
  try clear hcz12_0
  try clear hcz12_1
  try clear hcz12_2
  try clear hcz12_3
  try clear hcz14_0
  try clear hcz14_1
  try clear hcz14_2
  try clear hcz14_3
  try clear hcz16_0
  try clear hcz16_1
  try clear hcz16_2
  try clear hcz16_3
  try clear hcz17_0
  try clear hcz17_1
  try clear hcz17_2
  try clear hcz17_3
  try clear hfz10_0
  try clear hfz10_1
  try clear hfz10_2
  try clear hfz10_3
  try clear hfz12_0
  try clear hfz12_1
  try clear hfz12_2
  try clear hfz12_3
  try clear hfz14_0
  try clear hfz14_1
  try clear hfz14_2
  try clear hfz14_3
  try clear hfz16_0
  try clear hfz16_1
  try clear hfz16_2
  try clear hfz16_3
  try clear hfz17_0
  try clear hfz17_1
  try clear hfz17_2
  try clear hfz17_3
  obtain ⟨kq, x33_1, rfl, HA, HJ1, BK293, HB⟩ := hcut
  cases kq with
  | zero => exact absurd HA.out (by simp [impl_MachineOk.j0])
  | succ kj1 =>
   have H := HA.out
   clear HA
   simp only [impl_MachineOk.j0] at H
   by_cases c18 : x33_1 = true
   ·subst c18
    have H1 : (some false) = some r := by rw [if_pos rfl] at H; exact H
    clear H
    have H := H1
    clear H1
    obtain rfl := Option.some.inj H
    go_wp2
    go_ret
    exact fI_ HB.out
   ·replace c18 := Bool.eq_false_iff.mpr c18
    subst c18
    have H1 : (impl_MachineOk.l0 kj1 l0_1 (l0_1.length : Int) 0 l0_0 l0_1 l0_2 l0_3) = some r := by rw [if_neg (show ¬ (false = true) by decide)] at H; exact H
    clear H
    have H := H1
    clear H1
    have H' := aM_ H
    clear H
    obtain ⟨hcz19_0, hcz19_1, hcz19_2, hcz19_3, hfz19_0, hfz19_1, hfz19_2, hfz19_3⟩ := bR4_ BK293.out
    go_wp2
    go_loopg [37] kj1 (fun kq v37 w' => ∃ (x37_2 : Int), v37 = .int .i64 x37_2 ∧ Aside0 (impl_MachineOk.l0 kq l0_1 (l0_1.length : Int) x37_2 l0_0 l0_1 l0_2 l0_3 = some r) ∧ Aside0 (kq ≤ kj1) ∧ Aside0 (w'.heap[gb293]? = some (.cells #[(.slice A0_0 l0_0.length c0_0), (.slice A0_1 l0_1.length c0_1), (.slice A0_2 l0_2.length c0_2), (.slice A0_3 l0_3.length c0_3)] 69 (0, 0))) ∧ Aside0 (Below w.heap.size w w'))
    case atStart => exact ⟨(0), (by first | rfl | (simp; done) | (simp [*]; done)), H', ⟨Nat.le_refl _⟩, ⟨rW_ BK293.out⟩, ⟨gW_ HB.out⟩⟩
    case round =>
     clear H'
     try clear c1
     try clear c2
     try clear p2
     try clear c4
     try clear c5
     try clear c6
     try clear c6b0
     try clear c6b1
     try clear c6b2
     try clear c8
     try clear c18
     try clear hcz10_0
     try clear hcz10_1
     try clear hcz10_2
     try clear hcz10_3
     try clear hcz12_0
     try clear hcz12_1
     try clear hcz12_2
     try clear hcz12_3
     try clear hcz14_0
     try clear hcz14_1
     try clear hcz14_2
     try clear hcz14_3
     try clear hcz16_0
     try clear hcz16_1
     try clear hcz16_2
     try clear hcz16_3
     try clear hcz17_0
     try clear hcz17_1
     try clear hcz17_2
     try clear hcz17_3
     try clear hcz19_0
     try clear hcz19_1
     try clear hcz19_2
     try clear hcz19_3
     try clear hfz10_0
     try clear hfz10_1
     try clear hfz10_2
     try clear hfz10_3
     try clear hfz12_0
     try clear hfz12_1
     try clear hfz12_2
     try clear hfz12_3
     try clear hfz14_0
     try clear hfz14_1
     try clear hfz14_2
     try clear hfz14_3
     try clear hfz16_0
     try clear hfz16_1
     try clear hfz16_2
     try clear hfz16_3
     try clear hfz17_0
     try clear hfz17_1
     try clear hfz17_2
     try clear hfz17_3
     try clear hfz19_0
     try clear hfz19_1
     try clear hfz19_2
     try clear hfz19_3
     try clear p2
     obtain ⟨x37_2, rfl, HA, HK2, BK293, HB⟩ := hrel
     cases gk with
     | zero => exact absurd HA.out (by simp [impl_MachineOk.l0])
     | succ k2 =>
      have H := HA.out
      clear HA
      simp only [impl_MachineOk.l0] at H
      by_cases c20 : x37_2 < (l0_1.length : Int)
      ·rw [if_pos c20] at H
       have c20b0 : decide (x37_2 < (l0_1.length : Int)) = true := decide_eq_true c20
       clear c20
       by_cases c21 : 0 ≤ x37_2
       ·rw [if_pos c21] at H
        have c21b0 : decide (0 ≤ x37_2) = true := decide_eq_true c21
        clear c21
        by_cases c22 : x37_2 < (l0_1.length : Int)
        ·rw [if_pos c22] at H
         have c22b0 : decide (x37_2 < (l0_1.length : Int)) = true := decide_eq_true c22
         clear c22
         have HC23 := aM_ H
         clear H
         have p297 : 0 ≤ (x37_2 : Int) := of_decide_eq_true (by first | (with_reducible assumption) | assumption)
         have q297 : x37_2 < (l0_1.length : Int) := of_decide_eq_true (by first | (with_reducible assumption) | assumption)
         obtain ⟨ad297, A297_1, c297_1, A297_2, c297_2, e297, hx297_0, hx297_1, hx297_2, hx297_3, hl297_1, hi297_1, hl297_2, hi297_2⟩ := at_T106 HR0_1.out x37_2 p297 q297
         cases e297
         replace hx297_0 := cB_ HB.out hx297_0
         replace hx297_1 := cB_ HB.out hx297_1
         replace hx297_2 := cB_ HB.out hx297_2
         replace hx297_3 := cB_ HB.out hx297_3
         have HR297_1 := aM_ hi297_1
         have HC297_1 := aM_ hl297_1
         clear hi297_1 hl297_1
         have HR297_2 := aM_ hi297_2
         have HC297_2 := aM_ hl297_2
         clear hi297_2 hl297_2
         replace p297 := eq_true p297
         replace q297 := eq_true q297
         go_upto_region 6 with (first | ((with_reducible refine gate_dst (N := 4) rfl ?_); (try (refine gate_guard (by rfl) ?_; dsimp only)); refine bX_ 4 (cs := #[.int .i64 0, .slice none 0 0, .slice none 0 0, .int .i64 0]) (t := 106) ?_; intro gb298 hg w24 hbox hb; have n0 := aM_ (nB_ BK293.out hb); have n1 := aM_ (sT_ HB.out hb); have n2 := aM_ (hbox); have n3 := aM_ (sZ_ hg HB.out); have n4 := aM_ (sZ_ hg HB.out); have n5 := aM_ (nL_ hg BK293.out); have n6 := aM_ (nG_ hg BK293.out); clear BK293; clear HB; have BK293 := n0; have HB := n1; have BK298 := n2; have GW298 := n3; have GE298 := n4; have NB293_298 := n5; have NB298_293 := n6; clear n0 n1 n2 n3 n4 n5 n6; clear hb hbox hg; have hnb25 := NB298_293.out; have hnc25 := NB293_298.out; obtain ⟨hcz26_0, hcz26_1, hcz26_2, hcz26_3, hfz26_0, hfz26_1, hfz26_2, hfz26_3⟩ := bR4_ BK298.out))
         (try simp only [Act.put, List.setIfInBounds_toArray, List.set_cons_zero, List.set_cons_succ])
         go_cut [67] (fun v67 wc => ∃ (kq : Nat) (x67_22 : Bool), v67 = .bool x67_22 ∧ Aside0 (impl_MachineOk.j2 kq l0_1 (l0_1.length : Int) x37_2 x67_22 l0_0 l0_1 l0_2 l0_3 ((rd_T106 l0_1 x37_2).f0) ((rd_T106 l0_1 x37_2).f1) ((rd_T106 l0_1 x37_2).f2) ((rd_T106 l0_1 x37_2).f3) = some r) ∧ Aside0 (kq ≤ k2) ∧ Aside0 (wc.heap[gb293]? = some (.cells #[(.slice A0_0 l0_0.length c0_0), (.slice (some ad297) l0_1.length c0_1), (.slice A0_2 l0_2.length c0_2), (.slice A0_3 l0_3.length c0_3)] 69 (0, 0))) ∧ Aside0 (wc.heap[gb298]? = some (.cells #[.int .i64 ((rd_T106 l0_1 x37_2).f0), (.slice A297_1 ((rd_T106 l0_1 x37_2).f1).length c297_1), (.slice A297_2 ((rd_T106 l0_1 x37_2).f2).length c297_2), .int .i64 ((rd_T106 l0_1 x37_2).f3)] 106 (0, 0))) ∧ Aside0 (Below w.heap.size w wc))
         case first =>
          have H := HC23.out
          clear HC23
          by_cases c27 : x37_2 < (l0_0.length : Int)
          ·rw [if_pos c27] at H
           have c27b0 : decide (x37_2 < (l0_0.length : Int)) = true := decide_eq_true c27
           clear c27
           (first | rw [c27b0] | (simp only [i64_w, i32_w]; rw [c27b0]) | skip)
           replace H := Option.bind_eq_some_iff.mp H
           obtain ⟨t300, A280, H⟩ := H
           replace H : (if t300 = true then (if (((rd_T106 l0_1 x37_2).f1).length : Int) = 8 then ((impl_within.f ((rd_T106 l0_1 x37_2).f0) 0 (wrap64 (((rd_L12 l0_0 x37_2).length : Int) - 1))).bind fun t302 => (impl_MachineOk.j2 k2 l0_1 (l0_1.length : Int) x37_2 (!t302) l0_0 l0_1 l0_2 l0_3 ((rd_T106 l0_1 x37_2).f0) ((rd_T106 l0_1 x37_2).f1) ((rd_T106 l0_1 x37_2).f2) ((rd_T106 l0_1 x37_2).f3))) else (impl_MachineOk.j2 k2 l0_1 (l0_1.length : Int) x37_2 true l0_0 l0_1 l0_2 l0_3 ((rd_T106 l0_1 x37_2).f0) ((rd_T106 l0_1 x37_2).f1) ((rd_T106 l0_1 x37_2).f2) ((rd_T106 l0_1 x37_2).f3))) else (impl_MachineOk.j2 k2 l0_1 (l0_1.length : Int) x37_2 true l0_0 l0_1 l0_2 l0_3 ((rd_T106 l0_1 x37_2).f0) ((rd_T106 l0_1 x37_2).f1) ((rd_T106 l0_1 x37_2).f2) ((rd_T106 l0_1 x37_2).f3))) = some r := H
           have A28 := aM_ A280
           clear A280
           by_cases c29 : t300 = true
           ·subst c29
            have H1 : (if (((rd_T106 l0_1 x37_2).f1).length : Int) = 8 then ((impl_within.f ((rd_T106 l0_1 x37_2).f0) 0 (wrap64 (((rd_L12 l0_0 x37_2).length : Int) - 1))).bind fun t302 => (impl_MachineOk.j2 k2 l0_1 (l0_1.length : Int) x37_2 (!t302) l0_0 l0_1 l0_2 l0_3 ((rd_T106 l0_1 x37_2).f0) ((rd_T106 l0_1 x37_2).f1) ((rd_T106 l0_1 x37_2).f2) ((rd_T106 l0_1 x37_2).f3))) else (impl_MachineOk.j2 k2 l0_1 (l0_1.length : Int) x37_2 true l0_0 l0_1 l0_2 l0_3 ((rd_T106 l0_1 x37_2).f0) ((rd_T106 l0_1 x37_2).f1) ((rd_T106 l0_1 x37_2).f2) ((rd_T106 l0_1 x37_2).f3))) = some r := by rw [if_pos rfl] at H; exact H
            clear H
            have H := H1
            clear H1
            by_cases c30 : (((rd_T106 l0_1 x37_2).f1).length : Int) = 8
            ·rw [if_pos c30] at H
             have c30b0 : ((((rd_T106 l0_1 x37_2).f1).length : Int) == 8) = true := beq_iff_eq.mpr c30
             have c30b1 : ((((rd_T106 l0_1 x37_2).f1).length : Int) != 8) = false := bne_eq_false_iff_eq.mpr c30
             clear c30
             replace H := Option.bind_eq_some_iff.mp H
             obtain ⟨t302, A310, H⟩ := H
             replace H : (impl_MachineOk.j2 k2 l0_1 (l0_1.length : Int) x37_2 (!t302) l0_0 l0_1 l0_2 l0_3 ((rd_T106 l0_1 x37_2).f0) ((rd_T106 l0_1 x37_2).f1) ((rd_T106 l0_1 x37_2).f2) ((rd_T106 l0_1 x37_2).f3)) = some r := H
             have A31 := aM_ A310
             clear A310
             have H' := aM_ H
             clear H
             try go_wp2
             have n0 : Aside0 (((((w24.setCell ⟨gb298, 0, none⟩ (.int .i64 ((rd_T106 l0_1 x37_2).f0))).setCell ⟨gb298, 1, none⟩ (.slice A297_1 ((rd_T106 l0_1 x37_2).f1).length c297_1)).setCell ⟨gb298, 2, none⟩ (.slice A297_2 ((rd_T106 l0_1 x37_2).f2).length c297_2)).setCell ⟨gb298, 3, none⟩ (.int .i64 ((rd_T106 l0_1 x37_2).f3))).heap[gb293]? = some (.cells #[.slice A0_0 l0_0.length c0_0, .slice (some ad297) l0_1.length c0_1, .slice A0_2 l0_2.length c0_2, .slice A0_3 l0_3.length c0_3] 69 (0, 0))) := ⟨by (with_reducible repeat (first | refine bN_ ?_ _ | refine bD_ ?_ | refine bA_ ?_ _)); refine blk_far ?_ NB293_298.out _; (with_reducible repeat (first | refine bN_ ?_ _ | refine bD_ ?_ | refine bA_ ?_ _)); refine blk_far ?_ NB293_298.out _; (with_reducible repeat (first | refine bN_ ?_ _ | refine bD_ ?_ | refine bA_ ?_ _)); refine blk_far ?_ NB293_298.out _; (with_reducible repeat (first | refine bN_ ?_ _ | refine bD_ ?_ | refine bA_ ?_ _)); refine blk_far ?_ NB293_298.out _; (with_reducible repeat (first | refine bN_ ?_ _ | refine bD_ ?_ | refine bA_ ?_ _)); exact BK293.out⟩
             have n1 : Aside0 (((((w24.setCell ⟨gb298, 0, none⟩ (.int .i64 ((rd_T106 l0_1 x37_2).f0))).setCell ⟨gb298, 1, none⟩ (.slice A297_1 ((rd_T106 l0_1 x37_2).f1).length c297_1)).setCell ⟨gb298, 2, none⟩ (.slice A297_2 ((rd_T106 l0_1 x37_2).f2).length c297_2)).setCell ⟨gb298, 3, none⟩ (.int .i64 ((rd_T106 l0_1 x37_2).f3))).heap[gb298]? = some (.cells #[.int .i64 ((rd_T106 l0_1 x37_2).f0), .slice A297_1 ((rd_T106 l0_1 x37_2).f1).length c297_1, .slice A297_2 ((rd_T106 l0_1 x37_2).f2).length c297_2, .int .i64 ((rd_T106 l0_1 x37_2).f3)] 106 (0, 0))) := ⟨by (with_reducible repeat (first | refine bN_ ?_ _ | refine bD_ ?_ | refine bA_ ?_ _)); refine blk_put (cs := #[.int .i64 ((rd_T106 l0_1 x37_2).f0), .slice A297_1 ((rd_T106 l0_1 x37_2).f1).length c297_1, .slice A297_2 ((rd_T106 l0_1 x37_2).f2).length c297_2, .int .i64 0]) ?_ 3 _ rfl; (with_reducible repeat (first | refine bN_ ?_ _ | refine bD_ ?_ | refine bA_ ?_ _)); refine blk_put (cs := #[.int .i64 ((rd_T106 l0_1 x37_2).f0), .slice A297_1 ((rd_T106 l0_1 x37_2).f1).length c297_1, .slice none 0 0, .int .i64 0]) ?_ 2 _ rfl; (with_reducible repeat (first | refine bN_ ?_ _ | refine bD_ ?_ | refine bA_ ?_ _)); refine blk_put (cs := #[.int .i64 ((rd_T106 l0_1 x37_2).f0), .slice none 0 0, .slice none 0 0, .int .i64 0]) ?_ 1 _ rfl; (with_reducible repeat (first | refine bN_ ?_ _ | refine bD_ ?_ | refine bA_ ?_ _)); refine blk_put (cs := #[.int .i64 0, .slice none 0 0, .slice none 0 0, .int .i64 0]) ?_ 0 _ rfl; (with_reducible repeat (first | refine bN_ ?_ _ | refine bD_ ?_ | refine bA_ ?_ _)); exact BK298.out⟩
             have n2 : Aside0 (Below w.heap.size w ((((w24.setCell ⟨gb298, 0, none⟩ (.int .i64 ((rd_T106 l0_1 x37_2).f0))).setCell ⟨gb298, 1, none⟩ (.slice A297_1 ((rd_T106 l0_1 x37_2).f1).length c297_1)).setCell ⟨gb298, 2, none⟩ (.slice A297_2 ((rd_T106 l0_1 x37_2).f2).length c297_2)).setCell ⟨gb298, 3, none⟩ (.int .i64 ((rd_T106 l0_1 x37_2).f3)))) := ⟨gW_ HB.out⟩
             (try clear BK293)
             (try clear BK298)
             (try clear HB)
             generalize ((((w24.setCell ⟨gb298, 0, none⟩ (.int .i64 ((rd_T106 l0_1 x37_2).f0))).setCell ⟨gb298, 1, none⟩ (.slice A297_1 ((rd_T106 l0_1 x37_2).f1).length c297_1)).setCell ⟨gb298, 2, none⟩ (.slice A297_2 ((rd_T106 l0_1 x37_2).f2).length c297_2)).setCell ⟨gb298, 3, none⟩ (.int .i64 ((rd_T106 l0_1 x37_2).f3))) = w32 at n0 n1 n2 ⊢
             have BK293 := n0
             have BK298 := n1
             have HB := n2
             clear n0 n1 n2
             have n0 := aM_ (blk_drew BK293.out)
             have n1 := aM_ (blk_drew BK298.out)
             have n2 := aM_ (below_drew1 HB.out)
             clear BK293
             clear BK298
             clear HB
             have BK293 := n0
             have BK298 := n1
             have HB := n2
             clear n0 n1 n2
             have p299 : 0 ≤ (x37_2 : Int) := of_decide_eq_true (by first | (with_reducible assumption) | assumption)
             have q299 : x37_2 < (l0_0.length : Int) := of_decide_eq_true (by first | (with_reducible assumption) | assumption)
             obtain ⟨ad299, A299_0, c299_0, e299, hx299_0, hl299_0, hi299_0⟩ := at_L12 HR0_0.out x37_2 p299 q299
             have hw299_0 := hx299_0
             cases e299
             replace hx299_0 := cB_ HB.out hx299_0
             have HR299_0 := aM_ hi299_0
             have HC299_0 := aM_ hl299_0
             clear hi299_0 hl299_0
             replace p299 := eq_true p299
             replace q299 := eq_true q299
             have p301 : 0 ≤ (x37_2 : Int) := of_decide_eq_true (by first | (with_reducible assumption) | assumption)
             have q301 : x37_2 < (l0_0.length : Int) := of_decide_eq_true (by first | (with_reducible assumption) | assumption)
             obtain ⟨ad301, A301_0, c301_0, e301, hx301_0, hl301_0, hi301_0⟩ := at_L12 HR0_0.out x37_2 p301 q301
             have hw301_0 := hx301_0
             obtain rfl : ad299 = ad301 := (by injection e301)
             replace hx301_0 := cB_ HB.out hx301_0
             have HR301_0 := aM_ hi301_0
             have HC301_0 := aM_ hl301_0
             clear hi301_0 hl301_0
             replace p301 := eq_true p301
             replace q301 := eq_true q301
             refine start_ (n := 26) (S := fun w' => w'.cell? ⟨gb293, 0, none⟩ = some (.slice (some ad299) l0_0.length c0_0) ∧ w'.cell? ⟨gb293, 1, none⟩ = some (.slice (some ad297) l0_1.length c0_1) ∧ w'.cell? ⟨gb293, 2, none⟩ = some (.slice A0_2 l0_2.length c0_2) ∧ w'.cell? ⟨gb293, 3, none⟩ = some (.slice A0_3 l0_3.length c0_3) ∧ w'.cell? ⟨gb298, 0, none⟩ = some (.int .i64 ((rd_T106 l0_1 x37_2).f0)) ∧ w'.cell? ⟨gb298, 1, none⟩ = some (.slice A297_1 ((rd_T106 l0_1 x37_2).f1).length c297_1) ∧ w'.cell? ⟨gb298, 2, none⟩ = some (.slice A297_2 ((rd_T106 l0_1 x37_2).f2).length c297_2) ∧ w'.cell? ⟨gb298, 3, none⟩ = some (.int .i64 ((rd_T106 l0_1 x37_2).f3)) ∧ w'.cell? (ad299.add (x37_2).toNat) = some (.slice A299_0 (rd_L12 l0_0 x37_2).length c299_0) ∧ w'.cell? (ad299.add (x37_2).toNat) = some (.slice A301_0 (rd_L12 l0_0 x37_2).length c301_0)) (ds := []) (mk_ 26 0) (by kernel_rfl) rfl rfl ⟨(blk_cell BK293.out 0).trans rfl, (blk_cell BK293.out 1).trans rfl, (blk_cell BK293.out 2).trans rfl, (blk_cell BK293.out 3).trans rfl, (blk_cell BK298.out 0).trans rfl, (blk_cell BK298.out 1).trans rfl, (blk_cell BK298.out 2).trans rfl, (blk_cell BK298.out 3).trans rfl, (cB_ HB.out hw299_0 :), (cB_ HB.out hw301_0 :)⟩ (fun hHeld => ?_); refine with_tabW impl_MachineOk.tab6 impl_MachineOk.bits6 (fun HT_ HW_ => ?_)
             generalize w32.drew = w33 at BK293 BK298 HB HR299_0 HR301_0 hx299_0 hx301_0 hHeld ⊢
             refine pU_ 0 (some 42) (mk_ 26 1) ?_
             refine pU_ 2 (some 44) (mk_ 26 5) ?_
             refine tK10_ 1 (some 43) (mk_ 26 7) ?_
             refine pU_ 3 (some 45) (mk_ 26 15) ?_
             refine tK10_ 4 (some 46) (mk_ 26 31) ?_
             refine oN_ 5 (some 47) (mk_ 26 63) (fun K hK => ?_)
             refine gO_ Try.func61 #[.slice A299_0 (rd_L12 l0_0 x37_2).length c299_0] ?_
             with_reducible refine (impl_CodeOk.calls k2 _ _ (rd_L12 l0_0 x37_2) true _ ?side1 ?side2 A28.out).mono ?_
             (case side1 => exact cS_ (Kd.C_below HR299_0.out HB.out))
             (case side2 => exact HC299_0.out)
             rintro e w34 ⟨rfl, hb⟩
             refine ⟨_, rfl, ?_⟩
             have n0 := aM_ (nB_ BK293.out hb)
             have n1 := aM_ (nB_ BK298.out hb)
             have n2 := aM_ (sT_ HB.out hb)
             clear BK293
             clear BK298
             clear HB
             have BK293 := n0
             have BK298 := n1
             have HB := n2
             clear n0 n1 n2
             (try clear hb)
             (try clear hb2)
             (try clear hk)
             (try clear hi)
             refine hK.out _ _ ⟨(blk_cell BK293.out 0).trans rfl, (blk_cell BK293.out 1).trans rfl, (blk_cell BK293.out 2).trans rfl, (blk_cell BK293.out 3).trans rfl, (blk_cell BK298.out 0).trans rfl, (blk_cell BK298.out 1).trans rfl, (blk_cell BK298.out 2).trans rfl, (blk_cell BK298.out 3).trans rfl, (cB_ HB.out hw299_0 :), (cB_ HB.out hw301_0 :)⟩ (fun hHeld => ?_)
             clear hK K
             refine norm_ (a' := ?_) ?_ ?_
             rotate_left
             ·show Act.put _ (some 47) _ = _
              simp only [pt_, pn_, sI_, s0_, s1_, i64_w, i32_w]
              rfl
             refine pU_ 6 (some 48) (mk_ 26 127) ?_
             refine pU_ 7 (some 49) (mk_ 26 255) ?_
             refine pU_ 8 (some 50) (mk_ 26 511) ?_
             refine tK10_ 9 (some 51) (mk_ 26 1023) ?_
             refine pU_ 10 (some 52) (mk_ 26 2047) ?_
             refine pU_ 11 (some 53) (mk_ 26 4095) ?_
             refine pU_ 12 (some 54) (mk_ 26 8191) ?_
             refine pU_ 13 (some 55) (mk_ 26 16383) ?_
             refine pU_ 14 (some 56) (mk_ 26 32767) ?_
             refine pU_ 16 (some 58) (mk_ 26 98303) ?_
             refine pU_ 18 (some 60) (mk_ 26 360447) ?_
             refine tK10_ 15 (some 57) (mk_ 26 393215) ?_
             refine tK10_ 17 (some 59) (mk_ 26 524287) ?_
             refine pU_ 19 (some 61) (mk_ 26 1048575) ?_
             refine tK10_ 20 (some 62) (mk_ 26 2097151) ?_
             refine pU_ 21 (some 63) (mk_ 26 4194303) ?_
             refine pU_ 22 (some 64) (mk_ 26 8388607) ?_
             refine oN_ 23 (some 65) (mk_ 26 16777215) (fun K hK => ?_)
             refine gO_ Try.func49 #[.int .i64 ((rd_T106 l0_1 x37_2).f0), .int .i64 0, .int .i64 (wrap64 (((rd_L12 l0_0 x37_2).length : Int) - 1))] ?_
             with_reducible refine (impl_within.calls ((rd_T106 l0_1 x37_2).f0) 0 (wrap64 (((rd_L12 l0_0 x37_2).length : Int) - 1)) t302 _ A31.out).mono ?_
             rintro e w' ⟨rfl, ⟨nd, rfl⟩⟩
             refine ⟨_, rfl, ?_⟩
             refine hK.out _ _ ⟨(blk_cell BK293.out 0).trans rfl, (blk_cell BK293.out 1).trans rfl, (blk_cell BK293.out 2).trans rfl, (blk_cell BK293.out 3).trans rfl, (blk_cell BK298.out 0).trans rfl, (blk_cell BK298.out 1).trans rfl, (blk_cell BK298.out 2).trans rfl, (blk_cell BK298.out 3).trans rfl, (cB_ HB.out hw299_0 :), (cB_ HB.out hw301_0 :)⟩ (fun hHeld => ?_)
             clear hK K
             refine norm_ (a' := ?_) ?_ ?_
             rotate_left
             ·show Act.put _ (some 65) _ = _
              simp only [pt_, pn_, sI_, s0_, s1_, i64_w, i32_w]
              rfl
             refine pU_ 24 (some 66) (mk_ 26 33554431) ?_
             refine pU_ 25 (some 67) (mk_ 26 67108863) ?_
             refine done_ (done_of HT_.out (by kernel_rfl)) ?_
             try go_wp2
             go_meet
             case rel => exact ⟨_, (!t302), (by first | rfl | (simp; done) | (simp [*]; done)), H', ⟨by have := HJ1.out; have := HK2.out; first | omega | exact Nat.le_refl _⟩, ⟨rW_ BK293.out⟩, ⟨rW_ BK298.out⟩, ⟨gW_ HB.out⟩⟩
            ·rw [if_neg c30] at H
             have c30b0 : ((((rd_T106 l0_1 x37_2).f1).length : Int) == 8) = false := beq_eq_false_iff_ne.mpr c30
             have c30b1 : ((((rd_T106 l0_1 x37_2).f1).length : Int) != 8) = true := bne_iff_ne.mpr c30
             have H' := aM_ H
             clear H
             try go_wp2
             have n0 : Aside0 (((((w24.setCell ⟨gb298, 0, none⟩ (.int .i64 ((rd_T106 l0_1 x37_2).f0))).setCell ⟨gb298, 1, none⟩ (.slice A297_1 ((rd_T106 l0_1 x37_2).f1).length c297_1)).setCell ⟨gb298, 2, none⟩ (.slice A297_2 ((rd_T106 l0_1 x37_2).f2).length c297_2)).setCell ⟨gb298, 3, none⟩ (.int .i64 ((rd_T106 l0_1 x37_2).f3))).heap[gb293]? = some (.cells #[.slice A0_0 l0_0.length c0_0, .slice (some ad297) l0_1.length c0_1, .slice A0_2 l0_2.length c0_2, .slice A0_3 l0_3.length c0_3] 69 (0, 0))) := ⟨by (with_reducible repeat (first | refine bN_ ?_ _ | refine bD_ ?_ | refine bA_ ?_ _)); refine blk_far ?_ NB293_298.out _; (with_reducible repeat (first | refine bN_ ?_ _ | refine bD_ ?_ | refine bA_ ?_ _)); refine blk_far ?_ NB293_298.out _; (with_reducible repeat (first | refine bN_ ?_ _ | refine bD_ ?_ | refine bA_ ?_ _)); refine blk_far ?_ NB293_298.out _; (with_reducible repeat (first | refine bN_ ?_ _ | refine bD_ ?_ | refine bA_ ?_ _)); refine blk_far ?_ NB293_298.out _; (with_reducible repeat (first | refine bN_ ?_ _ | refine bD_ ?_ | refine bA_ ?_ _)); exact BK293.out⟩
             have n1 : Aside0 (((((w24.setCell ⟨gb298, 0, none⟩ (.int .i64 ((rd_T106 l0_1 x37_2).f0))).setCell ⟨gb298, 1, none⟩ (.slice A297_1 ((rd_T106 l0_1 x37_2).f1).length c297_1)).setCell ⟨gb298, 2, none⟩ (.slice A297_2 ((rd_T106 l0_1 x37_2).f2).length c297_2)).setCell ⟨gb298, 3, none⟩ (.int .i64 ((rd_T106 l0_1 x37_2).f3))).heap[gb298]? = some (.cells #[.int .i64 ((rd_T106 l0_1 x37_2).f0), .slice A297_1 ((rd_T106 l0_1 x37_2).f1).length c297_1, .slice A297_2 ((rd_T106 l0_1 x37_2).f2).length c297_2, .int .i64 ((rd_T106 l0_1 x37_2).f3)] 106 (0, 0))) := ⟨by (with_reducible repeat (first | refine bN_ ?_ _ | refine bD_ ?_ | refine bA_ ?_ _)); refine blk_put (cs := #[.int .i64 ((rd_T106 l0_1 x37_2).f0), .slice A297_1 ((rd_T106 l0_1 x37_2).f1).length c297_1, .slice A297_2 ((rd_T106 l0_1 x37_2).f2).length c297_2, .int .i64 0]) ?_ 3 _ rfl; (with_reducible repeat (first | refine bN_ ?_ _ | refine bD_ ?_ | refine bA_ ?_ _)); refine blk_put (cs := #[.int .i64 ((rd_T106 l0_1 x37_2).f0), .slice A297_1 ((rd_T106 l0_1 x37_2).f1).length c297_1, .slice none 0 0, .int .i64 0]) ?_ 2 _ rfl; (with_reducible repeat (first | refine bN_ ?_ _ | refine bD_ ?_ | refine bA_ ?_ _)); refine blk_put (cs := #[.int .i64 ((rd_T106 l0_1 x37_2).f0), .slice none 0 0, .slice none 0 0, .int .i64 0]) ?_ 1 _ rfl; (with_reducible repeat (first | refine bN_ ?_ _ | refine bD_ ?_ | refine bA_ ?_ _)); refine blk_put (cs := #[.int .i64 0, .slice none 0 0, .slice none 0 0, .int .i64 0]) ?_ 0 _ rfl; (with_reducible repeat (first | refine bN_ ?_ _ | refine bD_ ?_ | refine bA_ ?_ _)); exact BK298.out⟩
             have n2 : Aside0 (Below w.heap.size w ((((w24.setCell ⟨gb298, 0, none⟩ (.int .i64 ((rd_T106 l0_1 x37_2).f0))).setCell ⟨gb298, 1, none⟩ (.slice A297_1 ((rd_T106 l0_1 x37_2).f1).length c297_1)).setCell ⟨gb298, 2, none⟩ (.slice A297_2 ((rd_T106 l0_1 x37_2).f2).length c297_2)).setCell ⟨gb298, 3, none⟩ (.int .i64 ((rd_T106 l0_1 x37_2).f3)))) := ⟨gW_ HB.out⟩
             (try clear BK293)
             (try clear BK298)
             (try clear HB)
             generalize ((((w24.setCell ⟨gb298, 0, none⟩ (.int .i64 ((rd_T106 l0_1 x37_2).f0))).setCell ⟨gb298, 1, none⟩ (.slice A297_1 ((rd_T106 l0_1 x37_2).f1).length c297_1)).setCell ⟨gb298, 2, none⟩ (.slice A297_2 ((rd_T106 l0_1 x37_2).f2).length c297_2)).setCell ⟨gb298, 3, none⟩ (.int .i64 ((rd_T106 l0_1 x37_2).f3))) = w35 at n0 n1 n2 ⊢
             have BK293 := n0
             have BK298 := n1
             have HB := n2
             clear n0 n1 n2
             have n0 := aM_ (blk_drew BK293.out)
             have n1 := aM_ (blk_drew BK298.out)
             have n2 := aM_ (below_drew1 HB.out)
             clear BK293
             clear BK298
             clear HB
             have BK293 := n0
             have BK298 := n1
             have HB := n2
             clear n0 n1 n2
             have p299 : 0 ≤ (x37_2 : Int) := of_decide_eq_true (by first | (with_reducible assumption) | assumption)
             have q299 : x37_2 < (l0_0.length : Int) := of_decide_eq_true (by first | (with_reducible assumption) | assumption)
             obtain ⟨ad299, A299_0, c299_0, e299, hx299_0, hl299_0, hi299_0⟩ := at_L12 HR0_0.out x37_2 p299 q299
             have hw299_0 := hx299_0
             cases e299
             replace hx299_0 := cB_ HB.out hx299_0
             have HR299_0 := aM_ hi299_0
             have HC299_0 := aM_ hl299_0
             clear hi299_0 hl299_0
             replace p299 := eq_true p299
             replace q299 := eq_true q299
             refine start_ (n := 26) (S := fun w' => w'.cell? ⟨gb293, 0, none⟩ = some (.slice (some ad299) l0_0.length c0_0) ∧ w'.cell? ⟨gb293, 1, none⟩ = some (.slice (some ad297) l0_1.length c0_1) ∧ w'.cell? ⟨gb293, 2, none⟩ = some (.slice A0_2 l0_2.length c0_2) ∧ w'.cell? ⟨gb293, 3, none⟩ = some (.slice A0_3 l0_3.length c0_3) ∧ w'.cell? ⟨gb298, 0, none⟩ = some (.int .i64 ((rd_T106 l0_1 x37_2).f0)) ∧ w'.cell? ⟨gb298, 1, none⟩ = some (.slice A297_1 ((rd_T106 l0_1 x37_2).f1).length c297_1) ∧ w'.cell? ⟨gb298, 2, none⟩ = some (.slice A297_2 ((rd_T106 l0_1 x37_2).f2).length c297_2) ∧ w'.cell? ⟨gb298, 3, none⟩ = some (.int .i64 ((rd_T106 l0_1 x37_2).f3)) ∧ w'.cell? (ad299.add (x37_2).toNat) = some (.slice A299_0 (rd_L12 l0_0 x37_2).length c299_0)) (ds := []) (mk_ 26 0) (by kernel_rfl) rfl rfl ⟨(blk_cell BK293.out 0).trans rfl, (blk_cell BK293.out 1).trans rfl, (blk_cell BK293.out 2).trans rfl, (blk_cell BK293.out 3).trans rfl, (blk_cell BK298.out 0).trans rfl, (blk_cell BK298.out 1).trans rfl, (blk_cell BK298.out 2).trans rfl, (blk_cell BK298.out 3).trans rfl, (cB_ HB.out hw299_0 :)⟩ (fun hHeld => ?_); refine with_tabW impl_MachineOk.tab6 impl_MachineOk.bits6 (fun HT_ HW_ => ?_)
             generalize w35.drew = w36 at BK293 BK298 HB HR299_0 hx299_0 hHeld ⊢
             refine pU_ 0 (some 42) (mk_ 26 1) ?_
             refine pU_ 2 (some 44) (mk_ 26 5) ?_
             refine tK9_ 1 (some 43) (mk_ 26 7) ?_
             refine pU_ 3 (some 45) (mk_ 26 15) ?_
             refine tK9_ 4 (some 46) (mk_ 26 31) ?_
             refine oN_ 5 (some 47) (mk_ 26 63) (fun K hK => ?_)
             refine gO_ Try.func61 #[.slice A299_0 (rd_L12 l0_0 x37_2).length c299_0] ?_
             with_reducible refine (impl_CodeOk.calls k2 _ _ (rd_L12 l0_0 x37_2) true _ ?side1 ?side2 A28.out).mono ?_
             (case side1 => exact cS_ (Kd.C_below HR299_0.out HB.out))
             (case side2 => exact HC299_0.out)
             rintro e w37 ⟨rfl, hb⟩
             refine ⟨_, rfl, ?_⟩
             have n0 := aM_ (nB_ BK293.out hb)
             have n1 := aM_ (nB_ BK298.out hb)
             have n2 := aM_ (sT_ HB.out hb)
             clear BK293
             clear BK298
             clear HB
             have BK293 := n0
             have BK298 := n1
             have HB := n2
             clear n0 n1 n2
             (try clear hb)
             (try clear hb2)
             (try clear hk)
             (try clear hi)
             refine hK.out _ _ ⟨(blk_cell BK293.out 0).trans rfl, (blk_cell BK293.out 1).trans rfl, (blk_cell BK293.out 2).trans rfl, (blk_cell BK293.out 3).trans rfl, (blk_cell BK298.out 0).trans rfl, (blk_cell BK298.out 1).trans rfl, (blk_cell BK298.out 2).trans rfl, (blk_cell BK298.out 3).trans rfl, (cB_ HB.out hw299_0 :)⟩ (fun hHeld => ?_)
             clear hK K
             refine norm_ (a' := ?_) ?_ ?_
             rotate_left
             ·show Act.put _ (some 47) _ = _
              simp only [pt_, pn_, sI_, s0_, s1_, i64_w, i32_w]
              rfl
             refine pU_ 6 (some 48) (mk_ 26 127) ?_
             refine pU_ 7 (some 49) (mk_ 26 255) ?_
             refine pU_ 8 (some 50) (mk_ 26 511) ?_
             refine tK9_ 9 (some 51) (mk_ 26 1023) ?_
             refine pU_ 10 (some 52) (mk_ 26 2047) ?_
             refine pU_ 11 (some 53) (mk_ 26 4095) ?_
             refine pU_ 12 (some 54) (mk_ 26 8191) ?_
             refine pU_ 13 (some 55) (mk_ 26 16383) ?_
             refine pX_ 14 (some 56) (mk_ 26 32767) ?_
             refine pX_ 15 (some 57) (mk_ 26 65535) ?_
             refine pX_ 16 (some 58) (mk_ 26 131071) ?_
             refine pX_ 17 (some 59) (mk_ 26 262143) ?_
             refine pX_ 18 (some 60) (mk_ 26 524287) ?_
             refine pX_ 19 (some 61) (mk_ 26 1048575) ?_
             refine pX_ 20 (some 62) (mk_ 26 2097151) ?_
             refine pX_ 21 (some 63) (mk_ 26 4194303) ?_
             refine pX_ 22 (some 64) (mk_ 26 8388607) ?_
             refine pX_ 23 (some 65) (mk_ 26 16777215) ?_
             refine pX_ 24 (some 66) (mk_ 26 33554431) ?_
             refine pU_ 25 (some 67) (mk_ 26 67108863) ?_
             refine done_ (done_of HT_.out (by kernel_rfl)) ?_
             try go_wp2
             go_meet
             case rel => exact ⟨_, (true), (by first | rfl | (simp; done) | (simp [*]; done)), H', ⟨by have := HJ1.out; have := HK2.out; first | omega | exact Nat.le_refl _⟩, ⟨rW_ BK293.out⟩, ⟨rW_ BK298.out⟩, ⟨gW_ HB.out⟩⟩
           ·replace c29 := Bool.eq_false_iff.mpr c29
            subst c29
            have H1 : (impl_MachineOk.j2 k2 l0_1 (l0_1.length : Int) x37_2 true l0_0 l0_1 l0_2 l0_3 ((rd_T106 l0_1 x37_2).f0) ((rd_T106 l0_1 x37_2).f1) ((rd_T106 l0_1 x37_2).f2) ((rd_T106 l0_1 x37_2).f3)) = some r := by rw [if_neg (show ¬ (false = true) by decide)] at H; exact H
            clear H
            have H := H1
            clear H1
            have H' := aM_ H
            clear H
            try go_wp2
            have n0 : Aside0 (((((w24.setCell ⟨gb298, 0, none⟩ (.int .i64 ((rd_T106 l0_1 x37_2).f0))).setCell ⟨gb298, 1, none⟩ (.slice A297_1 ((rd_T106 l0_1 x37_2).f1).length c297_1)).setCell ⟨gb298, 2, none⟩ (.slice A297_2 ((rd_T106 l0_1 x37_2).f2).length c297_2)).setCell ⟨gb298, 3, none⟩ (.int .i64 ((rd_T106 l0_1 x37_2).f3))).heap[gb293]? = some (.cells #[.slice A0_0 l0_0.length c0_0, .slice (some ad297) l0_1.length c0_1, .slice A0_2 l0_2.length c0_2, .slice A0_3 l0_3.length c0_3] 69 (0, 0))) := ⟨by (with_reducible repeat (first | refine bN_ ?_ _ | refine bD_ ?_ | refine bA_ ?_ _)); refine blk_far ?_ NB293_298.out _; (with_reducible repeat (first | refine bN_ ?_ _ | refine bD_ ?_ | refine bA_ ?_ _)); refine blk_far ?_ NB293_298.out _; (with_reducible repeat (first | refine bN_ ?_ _ | refine bD_ ?_ | refine bA_ ?_ _)); refine blk_far ?_ NB293_298.out _; (with_reducible repeat (first | refine bN_ ?_ _ | refine bD_ ?_ | refine bA_ ?_ _)); refine blk_far ?_ NB293_298.out _; (with_reducible repeat (first | refine bN_ ?_ _ | refine bD_ ?_ | refine bA_ ?_ _)); exact BK293.out⟩
            have n1 : Aside0 (((((w24.setCell ⟨gb298, 0, none⟩ (.int .i64 ((rd_T106 l0_1 x37_2).f0))).setCell ⟨gb298, 1, none⟩ (.slice A297_1 ((rd_T106 l0_1 x37_2).f1).length c297_1)).setCell ⟨gb298, 2, none⟩ (.slice A297_2 ((rd_T106 l0_1 x37_2).f2).length c297_2)).setCell ⟨gb298, 3, none⟩ (.int .i64 ((rd_T106 l0_1 x37_2).f3))).heap[gb298]? = some (.cells #[.int .i64 ((rd_T106 l0_1 x37_2).f0), .slice A297_1 ((rd_T106 l0_1 x37_2).f1).length c297_1, .slice A297_2 ((rd_T106 l0_1 x37_2).f2).length c297_2, .int .i64 ((rd_T106 l0_1 x37_2).f3)] 106 (0, 0))) := ⟨by (with_reducible repeat (first | refine bN_ ?_ _ | refine bD_ ?_ | refine bA_ ?_ _)); refine blk_put (cs := #[.int .i64 ((rd_T106 l0_1 x37_2).f0), .slice A297_1 ((rd_T106 l0_1 x37_2).f1).length c297_1, .slice A297_2 ((rd_T106 l0_1 x37_2).f2).length c297_2, .int .i64 0]) ?_ 3 _ rfl; (with_reducible repeat (first | refine bN_ ?_ _ | refine bD_ ?_ | refine bA_ ?_ _)); refine blk_put (cs := #[.int .i64 ((rd_T106 l0_1 x37_2).f0), .slice A297_1 ((rd_T106 l0_1 x37_2).f1).length c297_1, .slice none 0 0, .int .i64 0]) ?_ 2 _ rfl; (with_reducible repeat (first | refine bN_ ?_ _ | refine bD_ ?_ | refine bA_ ?_ _)); refine blk_put (cs := #[.int .i64 ((rd_T106 l0_1 x37_2).f0), .slice none 0 0, .slice none 0 0, .int .i64 0]) ?_ 1 _ rfl; (with_reducible repeat (first | refine bN_ ?_ _ | refine bD_ ?_ | refine bA_ ?_ _)); refine blk_put (cs := #[.int .i64 0, .slice none 0 0, .slice none 0 0, .int .i64 0]) ?_ 0 _ rfl; (with_reducible repeat (first | refine bN_ ?_ _ | refine bD_ ?_ | refine bA_ ?_ _)); exact BK298.out⟩
            have n2 : Aside0 (Below w.heap.size w ((((w24.setCell ⟨gb298, 0, none⟩ (.int .i64 ((rd_T106 l0_1 x37_2).f0))).setCell ⟨gb298, 1, none⟩ (.slice A297_1 ((rd_T106 l0_1 x37_2).f1).length c297_1)).setCell ⟨gb298, 2, none⟩ (.slice A297_2 ((rd_T106 l0_1 x37_2).f2).length c297_2)).setCell ⟨gb298, 3, none⟩ (.int .i64 ((rd_T106 l0_1 x37_2).f3)))) := ⟨gW_ HB.out⟩
            (try clear BK293)
            (try clear BK298)
            (try clear HB)
            generalize ((((w24.setCell ⟨gb298, 0, none⟩ (.int .i64 ((rd_T106 l0_1 x37_2).f0))).setCell ⟨gb298, 1, none⟩ (.slice A297_1 ((rd_T106 l0_1 x37_2).f1).length c297_1)).setCell ⟨gb298, 2, none⟩ (.slice A297_2 ((rd_T106 l0_1 x37_2).f2).length c297_2)).setCell ⟨gb298, 3, none⟩ (.int .i64 ((rd_T106 l0_1 x37_2).f3))) = w38 at n0 n1 n2 ⊢
            have BK293 := n0
            have BK298 := n1
            have HB := n2
            clear n0 n1 n2
            have n0 := aM_ (blk_drew BK293.out)
            have n1 := aM_ (blk_drew BK298.out)
            have n2 := aM_ (below_drew1 HB.out)
            clear BK293
            clear BK298
            clear HB
            have BK293 := n0
            have BK298 := n1
            have HB := n2
            clear n0 n1 n2
            have p299 : 0 ≤ (x37_2 : Int) := of_decide_eq_true (by first | (with_reducible assumption) | assumption)
            have q299 : x37_2 < (l0_0.length : Int) := of_decide_eq_true (by first | (with_reducible assumption) | assumption)
            obtain ⟨ad299, A299_0, c299_0, e299, hx299_0, hl299_0, hi299_0⟩ := at_L12 HR0_0.out x37_2 p299 q299
            have hw299_0 := hx299_0
            cases e299
            replace hx299_0 := cB_ HB.out hx299_0
            have HR299_0 := aM_ hi299_0
            have HC299_0 := aM_ hl299_0
            clear hi299_0 hl299_0
            replace p299 := eq_true p299
            replace q299 := eq_true q299
            refine start_ (n := 26) (S := fun w' => w'.cell? ⟨gb293, 0, none⟩ = some (.slice (some ad299) l0_0.length c0_0) ∧ w'.cell? ⟨gb293, 1, none⟩ = some (.slice (some ad297) l0_1.length c0_1) ∧ w'.cell? ⟨gb293, 2, none⟩ = some (.slice A0_2 l0_2.length c0_2) ∧ w'.cell? ⟨gb293, 3, none⟩ = some (.slice A0_3 l0_3.length c0_3) ∧ w'.cell? (ad299.add (x37_2).toNat) = some (.slice A299_0 (rd_L12 l0_0 x37_2).length c299_0)) (ds := []) (mk_ 26 0) (by kernel_rfl) rfl rfl ⟨(blk_cell BK293.out 0).trans rfl, (blk_cell BK293.out 1).trans rfl, (blk_cell BK293.out 2).trans rfl, (blk_cell BK293.out 3).trans rfl, (cB_ HB.out hw299_0 :)⟩ (fun hHeld => ?_); refine with_tabW impl_MachineOk.tab6 impl_MachineOk.bits6 (fun HT_ HW_ => ?_)
            generalize w38.drew = w39 at BK293 BK298 HB HR299_0 hx299_0 hHeld ⊢
            refine pU_ 0 (some 42) (mk_ 26 1) ?_
            refine pU_ 2 (some 44) (mk_ 26 5) ?_
            refine tK5_ 1 (some 43) (mk_ 26 7) ?_
            refine pU_ 3 (some 45) (mk_ 26 15) ?_
            refine tK5_ 4 (some 46) (mk_ 26 31) ?_
            refine oN_ 5 (some 47) (mk_ 26 63) (fun K hK => ?_)
            refine gO_ Try.func61 #[.slice A299_0 (rd_L12 l0_0 x37_2).length c299_0] ?_
            with_reducible refine (impl_CodeOk.calls k2 _ _ (rd_L12 l0_0 x37_2) false _ ?side1 ?side2 A28.out).mono ?_
            (case side1 => exact cS_ (Kd.C_below HR299_0.out HB.out))
            (case side2 => exact HC299_0.out)
            rintro e w40 ⟨rfl, hb⟩
            refine ⟨_, rfl, ?_⟩
            have n0 := aM_ (nB_ BK293.out hb)
            have n1 := aM_ (nB_ BK298.out hb)
            have n2 := aM_ (sT_ HB.out hb)
            clear BK293
            clear BK298
            clear HB
            have BK293 := n0
            have BK298 := n1
            have HB := n2
            clear n0 n1 n2
            (try clear hb)
            (try clear hb2)
            (try clear hk)
            (try clear hi)
            refine hK.out _ _ ⟨(blk_cell BK293.out 0).trans rfl, (blk_cell BK293.out 1).trans rfl, (blk_cell BK293.out 2).trans rfl, (blk_cell BK293.out 3).trans rfl, (cB_ HB.out hw299_0 :)⟩ (fun hHeld => ?_)
            clear hK K
            refine norm_ (a' := ?_) ?_ ?_
            rotate_left
            ·show Act.put _ (some 47) _ = _
             simp only [pt_, pn_, sI_, s0_, s1_, i64_w, i32_w]
             rfl
            refine pU_ 6 (some 48) (mk_ 26 127) ?_
            refine pU_ 7 (some 49) (mk_ 26 255) ?_
            refine pX_ 8 (some 50) (mk_ 26 511) ?_
            refine pX_ 9 (some 51) (mk_ 26 1023) ?_
            refine pX_ 10 (some 52) (mk_ 26 2047) ?_
            refine pX_ 11 (some 53) (mk_ 26 4095) ?_
            refine pU_ 12 (some 54) (mk_ 26 8191) ?_
            refine pU_ 13 (some 55) (mk_ 26 16383) ?_
            refine pX_ 14 (some 56) (mk_ 26 32767) ?_
            refine pX_ 15 (some 57) (mk_ 26 65535) ?_
            refine pX_ 16 (some 58) (mk_ 26 131071) ?_
            refine pX_ 17 (some 59) (mk_ 26 262143) ?_
            refine pX_ 18 (some 60) (mk_ 26 524287) ?_
            refine pX_ 19 (some 61) (mk_ 26 1048575) ?_
            refine pX_ 20 (some 62) (mk_ 26 2097151) ?_
            refine pX_ 21 (some 63) (mk_ 26 4194303) ?_
            refine pX_ 22 (some 64) (mk_ 26 8388607) ?_
            refine pX_ 23 (some 65) (mk_ 26 16777215) ?_
            refine pX_ 24 (some 66) (mk_ 26 33554431) ?_
            refine pU_ 25 (some 67) (mk_ 26 67108863) ?_
            refine done_ (done_of HT_.out (by kernel_rfl)) ?_
            try go_wp2
            go_meet
            case rel => exact ⟨_, (true), (by first | rfl | (simp; done) | (simp [*]; done)), H', ⟨by have := HJ1.out; have := HK2.out; first | omega | exact Nat.le_refl _⟩, ⟨rW_ BK293.out⟩, ⟨rW_ BK298.out⟩, ⟨gW_ HB.out⟩⟩
          ·rw [if_neg c27] at H
           exact absurd H (by simp)
         case rest =>
          clear HC23
          try clear c2
          try clear p2
          try clear q2
          try clear hx2
          try clear c3
          try clear c4
          try clear c6
          try clear p6
          try clear c27
          try clear c29
          try clear p29
          try clear q29
          try clear hx29
          try clear c30
          try clear c30b0
          try clear c30b1
          try clear hx299_0
          try clear p299
          try clear q299
          obtain ⟨kq, x67_22, rfl, HA, HJ22, BK293, BK298, HB⟩ := hcut
          cases kq with
          | zero => exact absurd HA.out (by simp [impl_MachineOk.j2])
          | succ kj22 =>
           have H := HA.out
           clear HA
           simp only [impl_MachineOk.j2] at H
           by_cases c41 : x67_22 = true
           ·subst c41
            have H1 : (some false) = some r := by rw [if_pos rfl] at H; exact H
            clear H
            have H := H1
            clear H1
            obtain rfl := Option.some.inj H
            go_wp2
            go_ret
            exact fI_ HB.out
           ·replace c41 := Bool.eq_false_iff.mpr c41
            subst c41
            have H1 : ((impl_within.f ((rd_T106 l0_1 x37_2).f3) 0 2).bind fun t303 => (if t303 = true then ((impl_ViewOk.f kj22 l0_2 ((rd_T106 l0_1 x37_2).f2)).bind fun t304 => (if t304 = true then (impl_MachineOk.l0 kj22 l0_1 (l0_1.length : Int) (wrap64 (x37_2 + 1)) l0_0 l0_1 l0_2 l0_3) else (some false))) else (some false))) = some r := by rw [if_neg (show ¬ (false = true) by decide)] at H; exact H
            clear H
            have H := H1
            clear H1
            replace H := Option.bind_eq_some_iff.mp H
            obtain ⟨t303, A420, H⟩ := H
            replace H : (if t303 = true then ((impl_ViewOk.f kj22 l0_2 ((rd_T106 l0_1 x37_2).f2)).bind fun t304 => (if t304 = true then (impl_MachineOk.l0 kj22 l0_1 (l0_1.length : Int) (wrap64 (x37_2 + 1)) l0_0 l0_1 l0_2 l0_3) else (some false))) else (some false)) = some r := H
            have A42 := aM_ A420
            clear A420
            by_cases c43 : t303 = true
            ·subst c43
             have H1 : ((impl_ViewOk.f kj22 l0_2 ((rd_T106 l0_1 x37_2).f2)).bind fun t304 => (if t304 = true then (impl_MachineOk.l0 kj22 l0_1 (l0_1.length : Int) (wrap64 (x37_2 + 1)) l0_0 l0_1 l0_2 l0_3) else (some false))) = some r := by rw [if_pos rfl] at H; exact H
             clear H
             have H := H1
             clear H1
             replace H := Option.bind_eq_some_iff.mp H
             obtain ⟨t304, A440, H⟩ := H
             replace H : (if t304 = true then (impl_MachineOk.l0 kj22 l0_1 (l0_1.length : Int) (wrap64 (x37_2 + 1)) l0_0 l0_1 l0_2 l0_3) else (some false)) = some r := H
             have A44 := aM_ A440
             clear A440
             by_cases c45 : t304 = true
             ·subst c45
              have H1 : (impl_MachineOk.l0 kj22 l0_1 (l0_1.length : Int) (wrap64 (x37_2 + 1)) l0_0 l0_1 l0_2 l0_3) = some r := by rw [if_pos rfl] at H; exact H
              clear H
              have H := H1
              clear H1
              have H' := aM_ H
              clear H
              have hnb46 := NB298_293.out
              have hnc46 := NB293_298.out
              obtain ⟨hcz47_0, hcz47_1, hcz47_2, hcz47_3, hfz47_0, hfz47_1, hfz47_2, hfz47_3⟩ := bR4_ BK298.out
              go_wp2_with (first | ((with_reducible refine gate_callee (f := 49) rfl ?_); refine gL_ (some 70) Try.func49 #[.int .i64 ((rd_T106 l0_1 x37_2).f3), .int .i64 0, .int .i64 2] ?_; (with_reducible refine (impl_within.calls ((rd_T106 l0_1 x37_2).f3) 0 2 true _ A42.out).mono ?_); rintro e w' ⟨rfl, ⟨nd, rfl⟩⟩; refine ⟨_, rfl, ?_⟩; obtain ⟨hcz48_0, hcz48_1, hcz48_2, hcz48_3, hfz48_0, hfz48_1, hfz48_2, hfz48_3⟩ := bR4_ BK293.out) | (go_at_call 62; (with_reducible refine (impl_ViewOk.calls kj22 _ _ l0_2 _ _ ((rd_T106 l0_1 x37_2).f2) true _ ?side1 ?side2 ?side3 ?side4 A44.out).mono ?_); (case side1 => exact cS_ (Kd.C_below HR0_2.out (by repeat (first | (with_reducible first | exact HB.out | apply hA_ | apply hN_ | apply hD_ | refine below_set ?_ GE293.out | refine below_set ?_ GE298.out) | exact HB.out)))); (case side2 => exact HC0_2.out); (case side3 => exact cS_ (Kd.C_below HR297_2.out (by repeat (first | (with_reducible first | exact HB.out | apply hA_ | apply hN_ | apply hD_ | refine below_set ?_ GE293.out | refine below_set ?_ GE298.out) | exact HB.out)))); (case side4 => exact HC297_2.out); rintro e w49 ⟨rfl, hb⟩; have n0 := aM_ (nB_ BK293.out hb); have n1 := aM_ (nB_ BK298.out hb); have n2 := aM_ (sT_ HB.out hb); clear BK293; clear BK298; clear HB; have BK293 := n0; have BK298 := n1; have HB := n2; clear n0 n1 n2))
              go_roundg kj22
              case measure => have := HJ1.out; have := HK2.out; have := HJ22.out; omega
              case rel => exact ⟨(wrap64 (x37_2 + 1)), (by first | rfl | (simp; done) | (simp [*]; done)), H', ⟨by have := HJ1.out; have := HK2.out; have := HJ22.out; omega⟩, ⟨rW_ BK293.out⟩, ⟨gW_ HB.out⟩⟩
             ·replace c45 := Bool.eq_false_iff.mpr c45
              subst c45
              have H1 : (some false) = some r := by rw [if_neg (show ¬ (false = true) by decide)] at H; exact H
              clear H
              have H := H1
              clear H1
              obtain rfl := Option.some.inj H
              have hnb50 := NB298_293.out
              have hnc50 := NB293_298.out
              obtain ⟨hcz51_0, hcz51_1, hcz51_2, hcz51_3, hfz51_0, hfz51_1, hfz51_2, hfz51_3⟩ := bR4_ BK298.out
              go_wp2_with (first | ((with_reducible refine gate_callee (f := 49) rfl ?_); refine gL_ (some 70) Try.func49 #[.int .i64 ((rd_T106 l0_1 x37_2).f3), .int .i64 0, .int .i64 2] ?_; (with_reducible refine (impl_within.calls ((rd_T106 l0_1 x37_2).f3) 0 2 true _ A42.out).mono ?_); rintro e w' ⟨rfl, ⟨nd, rfl⟩⟩; refine ⟨_, rfl, ?_⟩; obtain ⟨hcz52_0, hcz52_1, hcz52_2, hcz52_3, hfz52_0, hfz52_1, hfz52_2, hfz52_3⟩ := bR4_ BK293.out) | (go_at_call 62; (with_reducible refine (impl_ViewOk.calls kj22 _ _ l0_2 _ _ ((rd_T106 l0_1 x37_2).f2) false _ ?side1 ?side2 ?side3 ?side4 A44.out).mono ?_); (case side1 => exact cS_ (Kd.C_below HR0_2.out (by repeat (first | (with_reducible first | exact HB.out | apply hA_ | apply hN_ | apply hD_ | refine below_set ?_ GE293.out | refine below_set ?_ GE298.out) | exact HB.out)))); (case side2 => exact HC0_2.out); (case side3 => exact cS_ (Kd.C_below HR297_2.out (by repeat (first | (with_reducible first | exact HB.out | apply hA_ | apply hN_ | apply hD_ | refine below_set ?_ GE293.out | refine below_set ?_ GE298.out) | exact HB.out)))); (case side4 => exact HC297_2.out); rintro e w53 ⟨rfl, hb⟩; have n0 := aM_ (nB_ BK293.out hb); have n1 := aM_ (nB_ BK298.out hb); have n2 := aM_ (sT_ HB.out hb); clear BK293; clear BK298; clear HB; have BK293 := n0; have BK298 := n1; have HB := n2; clear n0 n1 n2))
              go_ret
              exact fI_ HB.out
            ·replace c43 := Bool.eq_false_iff.mpr c43
             subst c43
             have H1 : (some false) = some r := by rw [if_neg (show ¬ (false = true) by decide)] at H; exact H
             clear H
             have H := H1
             clear H1
             obtain rfl := Option.some.inj H
             have hnb54 := NB298_293.out
             have hnc54 := NB293_298.out
             obtain ⟨hcz55_0, hcz55_1, hcz55_2, hcz55_3, hfz55_0, hfz55_1, hfz55_2, hfz55_3⟩ := bR4_ BK298.out
             go_wp2_with (first | ((with_reducible refine gate_callee (f := 49) rfl ?_); refine gL_ (some 70) Try.func49 #[.int .i64 ((rd_T106 l0_1 x37_2).f3), .int .i64 0, .int .i64 2] ?_; (with_reducible refine (impl_within.calls ((rd_T106 l0_1 x37_2).f3) 0 2 false _ A42.out).mono ?_); rintro e w' ⟨rfl, ⟨nd, rfl⟩⟩; refine ⟨_, rfl, ?_⟩))
             go_ret
             exact fI_ HB.out
        ·rw [if_neg c22] at H
         exact absurd H (by simp)
       ·rw [if_neg c21] at H
        exact absurd H (by simp)
      ·rw [if_neg c20] at H
       have c20b0 : decide (x37_2 < (l0_1.length : Int)) = false := decide_eq_false c20
       clear c20
       obtain rfl := Option.some.inj H
       go_wp2
       go_ret
       exact fI_ HB.out
end Go.Proofs.Ytfaoipojijhlbaa.PFnExactMachineOk
