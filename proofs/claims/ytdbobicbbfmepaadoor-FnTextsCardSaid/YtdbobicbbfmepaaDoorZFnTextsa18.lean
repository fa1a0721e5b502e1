/- A part of the proof that the law FnTexts holds for every input: the words, functions and walks that its row needs, without a condition of their own. -/
import Derived.Test.YtdbobicbbfmepaaDoorZFnTextsa1
import Derived.Test.YtdbobicbbfmepaaDoorZFnTextsa4
import Derived.Test.YtdbobicbbfmepaaDoorZFnTextsa6
import Derived.Test.YtdbobicbbfmepaaDoorZFnTextsa7
import Derived.Test.YtdbobicbbfmepaaDoorZFnTextsa9
import Derived.Test.YtdbobicbbfmepaaDoorZFnTextsa10
import Derived.Test.YtdbobicbbfmepaaDoorZFnTextsa11
import Derived.Test.YtdbobicbbfmepaaDoorZFnTextsa12
import Derived.Test.YtdbobicbbfmepaaDoorZFnTextsa15
import Derived.Test.YtdbobicbbfmepaaDoorZFnTextsa16
import Derived.Test.YtdbobicbbfmepaaDoorZFnTextsa17
import Derived.Test.YtdbobicbbfmepaaDoorZFnTextss
namespace Go.Proofs.YtdbobicbbfmepaaDoor.PFnTexts
open Go.RowKit Go.Proofs.YtdbobicbbfmepaaDoorW.PrintWords Go.Proofs.YtdbobicbbfmepaaDoorW.PrintLast Go.Proofs.YtdbobicbbfmepaaDoorW.PrintMore
attribute [local go_sem] max2_int min2_int max_two min_two max_three min_three max_four min_four   -- for this text's walks alone
set_option linter.unusedVariables false
set_option linter.unusedSimpArgs false
mutual
def laws_FnTexts.j0 : Nat → List (S25) → ByteArray → ByteArray → ByteArray → ByteArray → Bool → Int → Int → Int → Int → Int → Int → List Int → Bool → Option (Bool)
  | 0, _, _, _, _, _, _, _, _, _, _, _, _, _, _ => none
  | k + 1, x4, x7, x8, x9, x10, x52, x514000, x514001, x514002, x514003, x514004, x526000, x526001, x526002 => if x52 = true then (some false) else (laws_FnTexts.l0 k x4 x7 x8 x9 x10 0 0 x514000 x514001 x514002 x514003 x514004 x526000 x526001 x526002)
def laws_FnTexts.l0 : Nat → List (S25) → ByteArray → ByteArray → ByteArray → ByteArray → Int → Int → Int → Int → Int → Int → Int → Int → List Int → Bool → Option (Bool)
  | 0, _, _, _, _, _, _, _, _, _, _, _, _, _, _, _ => none
  | k + 1, x4, x7, x8, x9, x10, x11, x12, x514000, x514001, x514002, x514003, x514004, x526000, x526001, x526002 => if x12 < (x8.size : Int) then (if 0 ≤ x12 then (if (bt x8 x12) = 10 then (laws_FnTexts.l0 k x4 x7 x8 x9 x10 (wrap64 (x11 + 1)) (wrap64 (x12 + 1)) x514000 x514001 x514002 x514003 x514004 x526000 x526001 x526002) else (laws_FnTexts.l0 k x4 x7 x8 x9 x10 x11 (wrap64 (x12 + 1)) x514000 x514001 x514002 x514003 x514004 x526000 x526001 x526002)) else (none)) else ((impl_StepOk.f k x514000 x514001 x514002 x514003 x514004 800).bind fun t534 => (if ((x7.toList != ([] : List UInt8)) == t534) = true then ((impl_ChanOk.f x526000 x526001 x526002).bind fun t535 => (if ((x10.toList != ([] : List UInt8)) == t535) = true then (if x9.toList = ([] : List UInt8) then (some false) else (if x11 = (x4.length : Int) then ((impl_CodeOk.f k x4).bind fun t536 => (if t536 = true then (some true) else (if x8.toList = ([] : List UInt8) then ((impl_CodeOk.f k x4).bind fun t537 => (some (!t537))) else (some false)))) else (if x8.toList = ([] : List UInt8) then ((impl_CodeOk.f k x4).bind fun t538 => (some (!t538))) else (some false)))) else (some false))) else (some false)))
end
def laws_FnTexts.f (k : Nat) (l0 : List Int) : Option (Bool) := (laws_big.f l0).bind fun t507 => (if t507 = true then (some true) else ((spec_DrawStepText.f k l0).bind fun bt508 => ((spec_DrawCodeText.f k l0).bind fun t514 => ((spec_DrawTraceText.f k l0).bind fun t517 => ((spec_DrawChanText.f k l0).bind fun bt520 => ((impl_StepText.f k bt508.1 bt508.2.1 bt508.2.2.1 bt508.2.2.2.1 bt508.2.2.2.2).bind fun t526 => ((impl_CodeText.f k t514).bind fun t527 => ((impl_TraceText.f k t517).bind fun t528 => ((impl_ChanText.f k bt520.1 bt520.2.1 bt520.2.2).bind fun t529 => ((spec_StepText.f k bt508.1 bt508.2.1 bt508.2.2.1 bt508.2.2.2.1 bt508.2.2.2.2).bind fun t530 => (if t526.toList = t530.toList then ((spec_CodeText.f k t514).bind fun t531 => (if t527.toList = t531.toList then ((spec_TraceText.f k t517).bind fun t532 => (if t528.toList = t532.toList then ((spec_ChanText.f k bt520.1 bt520.2.1 bt520.2.2).bind fun t533 => (laws_FnTexts.j0 k t514 t526 t527 t528 t529 (t529.toList != t533.toList) bt508.1 bt508.2.1 bt508.2.2.1 bt508.2.2.2.1 bt508.2.2.2.2 bt520.1 bt520.2.1 bt520.2.2)) else (laws_FnTexts.j0 k t514 t526 t527 t528 t529 true bt508.1 bt508.2.1 bt508.2.2.1 bt508.2.2.2.1 bt508.2.2.2.2 bt520.1 bt520.2.1 bt520.2.2))) else (laws_FnTexts.j0 k t514 t526 t527 t528 t529 true bt508.1 bt508.2.1 bt508.2.2.1 bt508.2.2.2.1 bt508.2.2.2.2 bt520.1 bt520.2.1 bt520.2.2))) else (laws_FnTexts.j0 k t514 t526 t527 t528 t529 true bt508.1 bt508.2.1 bt508.2.2.1 bt508.2.2.2.1 bt508.2.2.2.2 bt520.1 bt520.2.1 bt520.2.2))))))))))))
def laws_FnTexts.T7 : Bool × List (List Nat × List Nat) := (true, [([], []), ([0], [0]), ([], []), ([2, 1], [2]), ([], []), ([4, 3], [4]), ([], []), ([6, 5], [6]), ([1, 7, 0, 1], [1]), ([3, 8, 0, 1, 2, 3, 8], [3]), ([5, 9, 0, 1, 2, 3, 4, 5, 8, 9], [5]), ([7, 10, 0, 1, 2, 3, 4, 5, 6, 7, 8, 9, 10], [7])])
def laws_FnTexts.B7 : List Nat := [0, 1, 0, 7, 0, 31, 0, 127, 255, 511, 1023, 2047]
theorem laws_FnTexts.tab7 : rtab .any (opsOf Tryd.f3 7) = laws_FnTexts.T7 := by kernel_rfl
theorem laws_FnTexts.bits7 : waitsOk laws_FnTexts.T7.2 laws_FnTexts.B7 = true := by kernel_rfl
set_option maxHeartbeats 8000000 in
set_option maxRecDepth 100000 in
theorem laws_FnTexts.calls (k : Nat) (A0 : Option Addr) (c0 : Nat) (l0 : List Int) (r : Bool) (w : World) (hr0 : Kd.C (Kd.int .u8) w A0 l0.length l0) (hc0 : l0.length ≤ c0) (h : laws_FnTexts.f k l0 = some r) (hT : Tab.Laid w) :
  Calls Tryd.prog 3 #[.slice A0 l0.length c0] w fun e w' => e = .returned (.bool r) ∧ Below w.heap.size w w' := by
 have hu25 := Tryd.underlying25
 have hu33 := Tryd.underlying33
 have HR0 := aM_ hr0
 have HC0 := aM_ hc0
 clear hr0 hc0
 have HB := aM_ (Below.refl w.heap.size w)
 have H : ((laws_big.f l0).bind fun t507 => (if t507 = true then (some true) else ((spec_DrawStepText.f k l0).bind fun bt508 => ((spec_DrawCodeText.f k l0).bind fun t514 => ((spec_DrawTraceText.f k l0).bind fun t517 => ((spec_DrawChanText.f k l0).bind fun bt520 => ((impl_StepText.f k bt508.1 bt508.2.1 bt508.2.2.1 bt508.2.2.2.1 bt508.2.2.2.2).bind fun t526 => ((impl_CodeText.f k t514).bind fun t527 => ((impl_TraceText.f k t517).bind fun t528 => ((impl_ChanText.f k bt520.1 bt520.2.1 bt520.2.2).bind fun t529 => ((spec_StepText.f k bt508.1 bt508.2.1 bt508.2.2.1 bt508.2.2.2.1 bt508.2.2.2.2).bind fun t530 => (if t526.toList = t530.toList then ((spec_CodeText.f k t514).bind fun t531 => (if t527.toList = t531.toList then ((spec_TraceText.f k t517).bind fun t532 => (if t528.toList = t532.toList then ((spec_ChanText.f k bt520.1 bt520.2.1 bt520.2.2).bind fun t533 => (laws_FnTexts.j0 k t514 t526 t527 t528 t529 (t529.toList != t533.toList) bt508.1 bt508.2.1 bt508.2.2.1 bt508.2.2.2.1 bt508.2.2.2.2 bt520.1 bt520.2.1 bt520.2.2)) else (laws_FnTexts.j0 k t514 t526 t527 t528 t529 true bt508.1 bt508.2.1 bt508.2.2.1 bt508.2.2.2.1 bt508.2.2.2.2 bt520.1 bt520.2.1 bt520.2.2))) else (laws_FnTexts.j0 k t514 t526 t527 t528 t529 true bt508.1 bt508.2.1 bt508.2.2.1 bt508.2.2.2.1 bt508.2.2.2.2 bt520.1 bt520.2.1 bt520.2.2))) else (laws_FnTexts.j0 k t514 t526 t527 t528 t529 true bt508.1 bt508.2.1 bt508.2.2.1 bt508.2.2.2.1 bt508.2.2.2.2 bt520.1 bt520.2.1 bt520.2.2))))))))))))) = some r := h
 clear h
 replace H := Option.bind_eq_some_iff.mp H
 obtain ⟨t507, A20, H⟩ := H
 replace H : (if t507 = true then (some true) else ((spec_DrawStepText.f k l0).bind fun bt508 => ((spec_DrawCodeText.f k l0).bind fun t514 => ((spec_DrawTraceText.f k l0).bind fun t517 => ((spec_DrawChanText.f k l0).bind fun bt520 => ((impl_StepText.f k bt508.1 bt508.2.1 bt508.2.2.1 bt508.2.2.2.1 bt508.2.2.2.2).bind fun t526 => ((impl_CodeText.f k t514).bind fun t527 => ((impl_TraceText.f k t517).bind fun t528 => ((impl_ChanText.f k bt520.1 bt520.2.1 bt520.2.2).bind fun t529 => ((spec_StepText.f k bt508.1 bt508.2.1 bt508.2.2.1 bt508.2.2.2.1 bt508.2.2.2.2).bind fun t530 => (if t526.toList = t530.toList then ((spec_CodeText.f k t514).bind fun t531 => (if t527.toList = t531.toList then ((spec_TraceText.f k t517).bind fun t532 => (if t528.toList = t532.toList then ((spec_ChanText.f k bt520.1 bt520.2.1 bt520.2.2).bind fun t533 => (laws_FnTexts.j0 k t514 t526 t527 t528 t529 (t529.toList != t533.toList) bt508.1 bt508.2.1 bt508.2.2.1 bt508.2.2.2.1 bt508.2.2.2.2 bt520.1 bt520.2.1 bt520.2.2)) else (laws_FnTexts.j0 k t514 t526 t527 t528 t529 true bt508.1 bt508.2.1 bt508.2.2.1 bt508.2.2.2.1 bt508.2.2.2.2 bt520.1 bt520.2.1 bt520.2.2))) else (laws_FnTexts.j0 k t514 t526 t527 t528 t529 true bt508.1 bt508.2.1 bt508.2.2.1 bt508.2.2.2.1 bt508.2.2.2.2 bt520.1 bt520.2.1 bt520.2.2))) else (laws_FnTexts.j0 k t514 t526 t527 t528 t529 true bt508.1 bt508.2.1 bt508.2.2.1 bt508.2.2.2.1 bt508.2.2.2.2 bt520.1 bt520.2.1 bt520.2.2)))))))))))) = some r := H
 have A2 := aM_ A20
 clear A20
 by_cases c3 : t507 = true
 ·subst c3
  have H1 : (some true) = some r := by rw [if_pos rfl] at H; exact H
  clear H
  have H := H1
  clear H1
  obtain rfl := Option.some.inj H
  go_enter Tryd.func3, Tryd.ntmps3
  go_wp2_with (first | ((with_reducible refine gate_callee (f := 6) rfl ?_); refine gL_ (some 14) Tryd.func6 #[.slice A0 l0.length c0] ?_; (with_reducible refine (laws_big.calls _ _ l0 true _ ?side1 ?side2 A2.out).mono ?_); (case side1 => exact cS_ HR0.out); (case side2 => exact HC0.out); rintro e w' ⟨rfl, ⟨nd, rfl⟩⟩; refine ⟨_, rfl, ?_⟩))
  go_ret
  exact fI_ HB.out
 ·replace c3 := Bool.eq_false_iff.mpr c3
  subst c3
  have H1 : ((spec_DrawStepText.f k l0).bind fun bt508 => ((spec_DrawCodeText.f k l0).bind fun t514 => ((spec_DrawTraceText.f k l0).bind fun t517 => ((spec_DrawChanText.f k l0).bind fun bt520 => ((impl_StepText.f k bt508.1 bt508.2.1 bt508.2.2.1 bt508.2.2.2.1 bt508.2.2.2.2).bind fun t526 => ((impl_CodeText.f k t514).bind fun t527 => ((impl_TraceText.f k t517).bind fun t528 => ((impl_ChanText.f k bt520.1 bt520.2.1 bt520.2.2).bind fun t529 => ((spec_StepText.f k bt508.1 bt508.2.1 bt508.2.2.1 bt508.2.2.2.1 bt508.2.2.2.2).bind fun t530 => (if t526.toList = t530.toList then ((spec_CodeText.f k t514).bind fun t531 => (if t527.toList = t531.toList then ((spec_TraceText.f k t517).bind fun t532 => (if t528.toList = t532.toList then ((spec_ChanText.f k bt520.1 bt520.2.1 bt520.2.2).bind fun t533 => (laws_FnTexts.j0 k t514 t526 t527 t528 t529 (t529.toList != t533.toList) bt508.1 bt508.2.1 bt508.2.2.1 bt508.2.2.2.1 bt508.2.2.2.2 bt520.1 bt520.2.1 bt520.2.2)) else (laws_FnTexts.j0 k t514 t526 t527 t528 t529 true bt508.1 bt508.2.1 bt508.2.2.1 bt508.2.2.2.1 bt508.2.2.2.2 bt520.1 bt520.2.1 bt520.2.2))) else (laws_FnTexts.j0 k t514 t526 t527 t528 t529 true bt508.1 bt508.2.1 bt508.2.2.1 bt508.2.2.2.1 bt508.2.2.2.2 bt520.1 bt520.2.1 bt520.2.2))) else (laws_FnTexts.j0 k t514 t526 t527 t528 t529 true bt508.1 bt508.2.1 bt508.2.2.1 bt508.2.2.2.1 bt508.2.2.2.2 bt520.1 bt520.2.1 bt520.2.2))))))))))) = some r := by rw [if_neg (show ¬ (false = true) by decide)] at H; exact H
  clear H
  have H := H1
  clear H1
  replace H := Option.bind_eq_some_iff.mp H
  obtain ⟨⟨t508, t509, t510, t511, t512⟩, A40, H⟩ := H
  replace H : ((spec_DrawCodeText.f k l0).bind fun t514 => ((spec_DrawTraceText.f k l0).bind fun t517 => ((spec_DrawChanText.f k l0).bind fun bt520 => ((impl_StepText.f k t508 t509 t510 t511 t512).bind fun t526 => ((impl_CodeText.f k t514).bind fun t527 => ((impl_TraceText.f k t517).bind fun t528 => ((impl_ChanText.f k bt520.1 bt520.2.1 bt520.2.2).bind fun t529 => ((spec_StepText.f k t508 t509 t510 t511 t512).bind fun t530 => (if t526.toList = t530.toList then ((spec_CodeText.f k t514).bind fun t531 => (if t527.toList = t531.toList then ((spec_TraceText.f k t517).bind fun t532 => (if t528.toList = t532.toList then ((spec_ChanText.f k bt520.1 bt520.2.1 bt520.2.2).bind fun t533 => (laws_FnTexts.j0 k t514 t526 t527 t528 t529 (t529.toList != t533.toList) t508 t509 t510 t511 t512 bt520.1 bt520.2.1 bt520.2.2)) else (laws_FnTexts.j0 k t514 t526 t527 t528 t529 true t508 t509 t510 t511 t512 bt520.1 bt520.2.1 bt520.2.2))) else (laws_FnTexts.j0 k t514 t526 t527 t528 t529 true t508 t509 t510 t511 t512 bt520.1 bt520.2.1 bt520.2.2))) else (laws_FnTexts.j0 k t514 t526 t527 t528 t529 true t508 t509 t510 t511 t512 bt520.1 bt520.2.1 bt520.2.2)))))))))) = some r := H
  have A4 := aM_ A40
  clear A40
  replace H := Option.bind_eq_some_iff.mp H
  obtain ⟨t514, A50, H⟩ := H
  replace H : ((spec_DrawTraceText.f k l0).bind fun t517 => ((spec_DrawChanText.f k l0).bind fun bt520 => ((impl_StepText.f k t508 t509 t510 t511 t512).bind fun t526 => ((impl_CodeText.f k t514).bind fun t527 => ((impl_TraceText.f k t517).bind fun t528 => ((impl_ChanText.f k bt520.1 bt520.2.1 bt520.2.2).bind fun t529 => ((spec_StepText.f k t508 t509 t510 t511 t512).bind fun t530 => (if t526.toList = t530.toList then ((spec_CodeText.f k t514).bind fun t531 => (if t527.toList = t531.toList then ((spec_TraceText.f k t517).bind fun t532 => (if t528.toList = t532.toList then ((spec_ChanText.f k bt520.1 bt520.2.1 bt520.2.2).bind fun t533 => (laws_FnTexts.j0 k t514 t526 t527 t528 t529 (t529.toList != t533.toList) t508 t509 t510 t511 t512 bt520.1 bt520.2.1 bt520.2.2)) else (laws_FnTexts.j0 k t514 t526 t527 t528 t529 true t508 t509 t510 t511 t512 bt520.1 bt520.2.1 bt520.2.2))) else (laws_FnTexts.j0 k t514 t526 t527 t528 t529 true t508 t509 t510 t511 t512 bt520.1 bt520.2.1 bt520.2.2))) else (laws_FnTexts.j0 k t514 t526 t527 t528 t529 true t508 t509 t510 t511 t512 bt520.1 bt520.2.1 bt520.2.2))))))))) = some r := H
  have A5 := aM_ A50
  clear A50
  replace H := Option.bind_eq_some_iff.mp H
  obtain ⟨t517, A60, H⟩ := H
  replace H : ((spec_DrawChanText.f k l0).bind fun bt520 => ((impl_StepText.f k t508 t509 t510 t511 t512).bind fun t526 => ((impl_CodeText.f k t514).bind fun t527 => ((impl_TraceText.f k t517).bind fun t528 => ((impl_ChanText.f k bt520.1 bt520.2.1 bt520.2.2).bind fun t529 => ((spec_StepText.f k t508 t509 t510 t511 t512).bind fun t530 => (if t526.toList = t530.toList then ((spec_CodeText.f k t514).bind fun t531 => (if t527.toList = t531.toList then ((spec_TraceText.f k t517).bind fun t532 => (if t528.toList = t532.toList then ((spec_ChanText.f k bt520.1 bt520.2.1 bt520.2.2).bind fun t533 => (laws_FnTexts.j0 k t514 t526 t527 t528 t529 (t529.toList != t533.toList) t508 t509 t510 t511 t512 bt520.1 bt520.2.1 bt520.2.2)) else (laws_FnTexts.j0 k t514 t526 t527 t528 t529 true t508 t509 t510 t511 t512 bt520.1 bt520.2.1 bt520.2.2))) else (laws_FnTexts.j0 k t514 t526 t527 t528 t529 true t508 t509 t510 t511 t512 bt520.1 bt520.2.1 bt520.2.2))) else (laws_FnTexts.j0 k t514 t526 t527 t528 t529 true t508 t509 t510 t511 t512 bt520.1 bt520.2.1 bt520.2.2)))))))) = some r := H
  have A6 := aM_ A60
  clear A60
  replace H := Option.bind_eq_some_iff.mp H
  obtain ⟨⟨t520, t521, t524⟩, A70, H⟩ := H
  replace H : ((impl_StepText.f k t508 t509 t510 t511 t512).bind fun t526 => ((impl_CodeText.f k t514).bind fun t527 => ((impl_TraceText.f k t517).bind fun t528 => ((impl_ChanText.f k t520 t521 t524).bind fun t529 => ((spec_StepText.f k t508 t509 t510 t511 t512).bind fun t530 => (if t526.toList = t530.toList then ((spec_CodeText.f k t514).bind fun t531 => (if t527.toList = t531.toList then ((spec_TraceText.f k t517).bind fun t532 => (if t528.toList = t532.toList then ((spec_ChanText.f k t520 t521 t524).bind fun t533 => (laws_FnTexts.j0 k t514 t526 t527 t528 t529 (t529.toList != t533.toList) t508 t509 t510 t511 t512 t520 t521 t524)) else (laws_FnTexts.j0 k t514 t526 t527 t528 t529 true t508 t509 t510 t511 t512 t520 t521 t524))) else (laws_FnTexts.j0 k t514 t526 t527 t528 t529 true t508 t509 t510 t511 t512 t520 t521 t524))) else (laws_FnTexts.j0 k t514 t526 t527 t528 t529 true t508 t509 t510 t511 t512 t520 t521 t524))))))) = some r := H
  have A7 := aM_ A70
  clear A70
  replace H := Option.bind_eq_some_iff.mp H
  obtain ⟨t526, A80, H⟩ := H
  replace H : ((impl_CodeText.f k t514).bind fun t527 => ((impl_TraceText.f k t517).bind fun t528 => ((impl_ChanText.f k t520 t521 t524).bind fun t529 => ((spec_StepText.f k t508 t509 t510 t511 t512).bind fun t530 => (if t526.toList = t530.toList then ((spec_CodeText.f k t514).bind fun t531 => (if t527.toList = t531.toList then ((spec_TraceText.f k t517).bind fun t532 => (if t528.toList = t532.toList then ((spec_ChanText.f k t520 t521 t524).bind fun t533 => (laws_FnTexts.j0 k t514 t526 t527 t528 t529 (t529.toList != t533.toList) t508 t509 t510 t511 t512 t520 t521 t524)) else (laws_FnTexts.j0 k t514 t526 t527 t528 t529 true t508 t509 t510 t511 t512 t520 t521 t524))) else (laws_FnTexts.j0 k t514 t526 t527 t528 t529 true t508 t509 t510 t511 t512 t520 t521 t524))) else (laws_FnTexts.j0 k t514 t526 t527 t528 t529 true t508 t509 t510 t511 t512 t520 t521 t524)))))) = some r := H
  have A8 := aM_ A80
  clear A80
  replace H := Option.bind_eq_some_iff.mp H
  obtain ⟨t527, A90, H⟩ := H
  replace H : ((impl_TraceText.f k t517).bind fun t528 => ((impl_ChanText.f k t520 t521 t524).bind fun t529 => ((spec_StepText.f k t508 t509 t510 t511 t512).bind fun t530 => (if t526.toList = t530.toList then ((spec_CodeText.f k t514).bind fun t531 => (if t527.toList = t531.toList then ((spec_TraceText.f k t517).bind fun t532 => (if t528.toList = t532.toList then ((spec_ChanText.f k t520 t521 t524).bind fun t533 => (laws_FnTexts.j0 k t514 t526 t527 t528 t529 (t529.toList != t533.toList) t508 t509 t510 t511 t512 t520 t521 t524)) else (laws_FnTexts.j0 k t514 t526 t527 t528 t529 true t508 t509 t510 t511 t512 t520 t521 t524))) else (laws_FnTexts.j0 k t514 t526 t527 t528 t529 true t508 t509 t510 t511 t512 t520 t521 t524))) else (laws_FnTexts.j0 k t514 t526 t527 t528 t529 true t508 t509 t510 t511 t512 t520 t521 t524))))) = some r := H
  have A9 := aM_ A90
  clear A90
  replace H := Option.bind_eq_some_iff.mp H
  obtain ⟨t528, A100, H⟩ := H
  replace H : ((impl_ChanText.f k t520 t521 t524).bind fun t529 => ((spec_StepText.f k t508 t509 t510 t511 t512).bind fun t530 => (if t526.toList = t530.toList then ((spec_CodeText.f k t514).bind fun t531 => (if t527.toList = t531.toList then ((spec_TraceText.f k t517).bind fun t532 => (if t528.toList = t532.toList then ((spec_ChanText.f k t520 t521 t524).bind fun t533 => (laws_FnTexts.j0 k t514 t526 t527 t528 t529 (t529.toList != t533.toList) t508 t509 t510 t511 t512 t520 t521 t524)) else (laws_FnTexts.j0 k t514 t526 t527 t528 t529 true t508 t509 t510 t511 t512 t520 t521 t524))) else (laws_FnTexts.j0 k t514 t526 t527 t528 t529 true t508 t509 t510 t511 t512 t520 t521 t524))) else (laws_FnTexts.j0 k t514 t526 t527 t528 t529 true t508 t509 t510 t511 t512 t520 t521 t524)))) = some r := H
  have A10 := aM_ A100
  clear A100
  replace H := Option.bind_eq_some_iff.mp H
  obtain ⟨t529, A110, H⟩ := H
  replace H : ((spec_StepText.f k t508 t509 t510 t511 t512).bind fun t530 => (if t526.toList = t530.toList then ((spec_CodeText.f k t514).bind fun t531 => (if t527.toList = t531.toList then ((spec_TraceText.f k t517).bind fun t532 => (if t528.toList = t532.toList then ((spec_ChanText.f k t520 t521 t524).bind fun t533 => (laws_FnTexts.j0 k t514 t526 t527 t528 t529 (t529.toList != t533.toList) t508 t509 t510 t511 t512 t520 t521 t524)) else (laws_FnTexts.j0 k t514 t526 t527 t528 t529 true t508 t509 t510 t511 t512 t520 t521 t524))) else (laws_FnTexts.j0 k t514 t526 t527 t528 t529 true t508 t509 t510 t511 t512 t520 t521 t524))) else (laws_FnTexts.j0 k t514 t526 t527 t528 t529 true t508 t509 t510 t511 t512 t520 t521 t524))) = some r := H
  have A11 := aM_ A110
  clear A110
  have HC12 := aM_ H
  clear H
  go_enter Tryd.func3, Tryd.ntmps3
  try go_wp2_with (first | ((with_reducible refine gate_callee (f := 6) rfl ?_); refine gL_ (some 14) Tryd.func6 #[.slice A0 l0.length c0] ?_; (with_reducible refine (laws_big.calls _ _ l0 false _ ?side1 ?side2 A2.out).mono ?_); (case side1 => exact cS_ HR0.out); (case side2 => exact HC0.out); rintro e w' ⟨rfl, ⟨nd, rfl⟩⟩; refine ⟨_, rfl, ?_⟩) | ((with_reducible refine gate_callee (f := 7) rfl ?_); refine gL_ (some 16) Tryd.func7 #[.slice A0 l0.length c0] ?_; (with_reducible refine (spec_DrawStepText.calls k _ _ l0 t508 t509 t510 t511 t512 _ ?side1 ?side2 A4.out).mono ?_); (case side1 => exact cS_ HR0.out); (case side2 => exact HC0.out); rintro e w13 ⟨rfl, hb⟩; refine ⟨_, rfl, ?_⟩; have n0 := aM_ (sT_ HB.out hb); clear HB; have HB := n0; clear n0) | ((with_reducible refine gate_dst (N := 3) rfl ?_); (try (refine gate_guard (by rfl) ?_; dsimp only)); refine bX_ 3 (cs := #[.int .i64 0, .int .i64 0, .int .i64 0, .int .i64 0, .int .i64 0]) (t := 25) ?_; intro gb513 hg w14 hbox hb; have n0 := aM_ (sT_ HB.out hb); have n1 := aM_ (hbox); have n2 := aM_ (sZ_ hg HB.out); have n3 := aM_ (sZ_ hg HB.out); clear HB; have HB := n0; have BK513 := n1; have GW513 := n2; have GE513 := n3; clear n0 n1 n2 n3; clear hb hbox hg; obtain ⟨hcz15_0, hcz15_1, hcz15_2, hcz15_3, hcz15_4, hfz15_0, hfz15_1, hfz15_2, hfz15_3, hfz15_4⟩ := bR5_ BK513.out) | ((with_reducible refine gate_callee (f := 8) rfl ?_); refine gL_ (some 18) Tryd.func8 #[.slice A0 l0.length c0] ?_; (with_reducible refine (spec_DrawCodeText.calls k _ _ l0 t514 _ ?side1 ?side2 A5.out).mono ?_); (case side1 => exact Kd.C_below HR0.out (gB_ HB.out)); (case side2 => exact HC0.out); rintro e w16 ⟨v515, rfl, ho0, hb⟩; refine ⟨_, rfl, ?_⟩; have n0 := aM_ (Kd.R_lower (Kd.R_newB ho0 (g := gb513) (o := .cells #[.int .i64 t508, .int .i64 t509, .int .i64 t510, .int .i64 t511, .int .i64 t512] 25 (0, 0)) (by (with_reducible repeat (first | refine bN_ ?_ _ | refine bD_ ?_ | refine bA_ ?_ _)); refine blk_put (cs := #[.int .i64 t508, .int .i64 t509, .int .i64 t510, .int .i64 t511, .int .i64 0]) ?_ 4 _ rfl; (with_reducible repeat (first | refine bN_ ?_ _ | refine bD_ ?_ | refine bA_ ?_ _)); refine blk_put (cs := #[.int .i64 t508, .int .i64 t509, .int .i64 t510, .int .i64 0, .int .i64 0]) ?_ 3 _ rfl; (with_reducible repeat (first | refine bN_ ?_ _ | refine bD_ ?_ | refine bA_ ?_ _)); refine blk_put (cs := #[.int .i64 t508, .int .i64 t509, .int .i64 0, .int .i64 0, .int .i64 0]) ?_ 2 _ rfl; (with_reducible repeat (first | refine bN_ ?_ _ | refine bD_ ?_ | refine bA_ ?_ _)); refine blk_put (cs := #[.int .i64 t508, .int .i64 0, .int .i64 0, .int .i64 0, .int .i64 0]) ?_ 1 _ rfl; (with_reducible repeat (first | refine bN_ ?_ _ | refine bD_ ?_ | refine bA_ ?_ _)); refine blk_put (cs := #[.int .i64 0, .int .i64 0, .int .i64 0, .int .i64 0, .int .i64 0]) ?_ 0 _ rfl; (with_reducible repeat (first | refine bN_ ?_ _ | refine bD_ ?_ | refine bA_ ?_ _)); exact BK513.out)) (below_size (gB_ HB.out))); have n1 := aM_ (blk_below (g := gb513) (o := .cells #[.int .i64 t508, .int .i64 t509, .int .i64 t510, .int .i64 t511, .int .i64 t512] 25 (0, 0)) (by (with_reducible repeat (first | refine bN_ ?_ _ | refine bD_ ?_ | refine bA_ ?_ _)); refine blk_put (cs := #[.int .i64 t508, .int .i64 t509, .int .i64 t510, .int .i64 t511, .int .i64 0]) ?_ 4 _ rfl; (with_reducible repeat (first | refine bN_ ?_ _ | refine bD_ ?_ | refine bA_ ?_ _)); refine blk_put (cs := #[.int .i64 t508, .int .i64 t509, .int .i64 t510, .int .i64 0, .int .i64 0]) ?_ 3 _ rfl; (with_reducible repeat (first | refine bN_ ?_ _ | refine bD_ ?_ | refine bA_ ?_ _)); refine blk_put (cs := #[.int .i64 t508, .int .i64 t509, .int .i64 0, .int .i64 0, .int .i64 0]) ?_ 2 _ rfl; (with_reducible repeat (first | refine bN_ ?_ _ | refine bD_ ?_ | refine bA_ ?_ _)); refine blk_put (cs := #[.int .i64 t508, .int .i64 0, .int .i64 0, .int .i64 0, .int .i64 0]) ?_ 1 _ rfl; (with_reducible repeat (first | refine bN_ ?_ _ | refine bD_ ?_ | refine bA_ ?_ _)); refine blk_put (cs := #[.int .i64 0, .int .i64 0, .int .i64 0, .int .i64 0, .int .i64 0]) ?_ 0 _ rfl; (with_reducible repeat (first | refine bN_ ?_ _ | refine bD_ ?_ | refine bA_ ?_ _)); exact BK513.out) hb); have n2 := aM_ (sT_ HB.out hb); clear BK513; clear HB; have HO516 := n0; have BK513 := n1; have HB := n2; clear n0 n1 n2; (try clear ho0)) | ((with_reducible refine gate_callee (f := 9) rfl ?_); refine gL_ (some 20) Tryd.func9 #[.slice A0 l0.length c0] ?_; (with_reducible refine (spec_DrawTraceText.calls k _ _ l0 t517 _ ?side1 ?side2 A6.out).mono ?_); (case side1 => exact cS_ (Kd.C_below HR0.out HB.out)); (case side2 => exact HC0.out); rintro e w17 ⟨v518, rfl, ho0, hb⟩; refine ⟨_, rfl, ?_⟩; have n0 := aM_ (bR_ HO516.out hb); have n1 := aM_ (Kd.R_lower ho0 (below_size (gB_ HB.out))); have n2 := aM_ (nB_ BK513.out hb); have n3 := aM_ (sT_ HB.out hb); clear HO516; clear BK513; clear HB; have HO516 := n0; have HO519 := n1; have BK513 := n2; have HB := n3; clear n0 n1 n2 n3; (try clear ho0)) | ((with_reducible refine gate_callee (f := 10) rfl ?_); refine gL_ (some 22) Tryd.func10 #[.slice A0 l0.length c0] ?_; (with_reducible refine (spec_DrawChanText.calls k _ _ l0 t520 t521 t524 _ ?side1 ?side2 A7.out).mono ?_); (case side1 => exact cS_ (Kd.C_below HR0.out HB.out)); (case side2 => exact HC0.out); rintro e w18 ⟨v522, rfl, ho0, hb⟩; refine ⟨_, rfl, ?_⟩; have n0 := aM_ (bR_ HO516.out hb); have n1 := aM_ (bR_ HO519.out hb); have n2 := aM_ (Kd.R_lower ho0 (below_size (gB_ HB.out))); have n3 := aM_ (nB_ BK513.out hb); have n4 := aM_ (sT_ HB.out hb); clear HO516; clear HO519; clear BK513; clear HB; have HO516 := n0; have HO519 := n1; have HO523 := n2; have BK513 := n3; have HB := n4; clear n0 n1 n2 n3 n4; (try clear ho0)) | ((with_reducible refine gate_dst (N := 6) rfl ?_); (try (refine gate_guard (by rfl) ?_; dsimp only)); refine bX_ 6 (cs := #[.int .i64 0, .slice none 0 0, .bool false]) (t := 33) ?_; intro gb525 hg w19 hbox hb; have n0 := aM_ (bR_ HO516.out hb); have n1 := aM_ (bR_ HO519.out hb); have n2 := aM_ (bR_ HO523.out hb); have n3 := aM_ (nB_ BK513.out hb); have n4 := aM_ (sT_ HB.out hb); have n5 := aM_ (hbox); have n6 := aM_ (sZ_ hg HB.out); have n7 := aM_ (sZ_ hg HB.out); have n8 := aM_ (nL_ hg BK513.out); have n9 := aM_ (nG_ hg BK513.out); clear HO516; clear HO519; clear HO523; clear BK513; clear HB; have HO516 := n0; have HO519 := n1; have HO523 := n2; have BK513 := n3; have HB := n4; have BK525 := n5; have GW525 := n6; have GE525 := n7; have NB513_525 := n8; have NB525_513 := n9; clear n0 n1 n2 n3 n4 n5 n6 n7 n8 n9; clear hb hbox hg; have hnb20 := NB525_513.out; have hnc20 := NB513_525.out; obtain ⟨hcz21_0, hcz21_1, hcz21_2, hfz21_0, hfz21_1, hfz21_2⟩ := bR3_ BK525.out; obtain ⟨Ao22, co22, eo22⟩ := Kd.R_slice HO523.out; subst eo22))
  have n0 : Aside0 (Kd.R k25 25 (((w19.setCell ⟨gb525, 0, none⟩ (.int .i64 t520)).setCell ⟨gb525, 1, none⟩ (.slice Ao22 t521.length co22)).setCell ⟨gb525, 2, none⟩ (.bool t524)) w.heap.size (fun k_ => k_ ≠ gb513) v515 t514) := ⟨by (with_reducible repeat (first | apply rA_ | apply rN_ | apply rD_)); exact Kd.R_mono (Kd.R_far (p := ⟨gb525, 2, none⟩) (Kd.R_far (p := ⟨gb525, 1, none⟩) (Kd.R_far (p := ⟨gb525, 0, none⟩) (Kd.R_types HO516.out BK525.out (by decide)) (fun _ hk => hk.2) (.int .i64 t520)) (fun _ hk => hk.2) (.slice Ao22 t521.length co22)) (fun _ hk => hk.2) (.bool t524)) (fun _ hk => hk.1.2)⟩
  have n1 : Aside0 (Kd.R k61 61 (((w19.setCell ⟨gb525, 0, none⟩ (.int .i64 t520)).setCell ⟨gb525, 1, none⟩ (.slice Ao22 t521.length co22)).setCell ⟨gb525, 2, none⟩ (.bool t524)) w.heap.size (fun _ => True) v518 t517) := ⟨by (with_reducible repeat (first | apply rA_ | apply rN_ | apply rD_)); exact Kd.R_mono (Kd.R_far (p := ⟨gb525, 2, none⟩) (Kd.R_far (p := ⟨gb525, 1, none⟩) (Kd.R_far (p := ⟨gb525, 0, none⟩) (Kd.R_types HO519.out BK525.out (by decide)) (fun _ hk => hk.2) (.int .i64 t520)) (fun _ hk => hk.2) (.slice Ao22 t521.length co22)) (fun _ hk => hk.2) (.bool t524)) (fun _ hk => trivial)⟩
  have n2 : Aside0 (Kd.R (Kd.int .i64) 3 (((w19.setCell ⟨gb525, 0, none⟩ (.int .i64 t520)).setCell ⟨gb525, 1, none⟩ (.slice Ao22 t521.length co22)).setCell ⟨gb525, 2, none⟩ (.bool t524)) w.heap.size (fun _ => True) (.slice Ao22 t521.length co22) t521) := ⟨by (with_reducible repeat (first | apply rA_ | apply rN_ | apply rD_)); exact Kd.R_mono (Kd.R_far (p := ⟨gb525, 2, none⟩) (Kd.R_far (p := ⟨gb525, 1, none⟩) (Kd.R_far (p := ⟨gb525, 0, none⟩) (Kd.R_types HO523.out BK525.out (by decide)) (fun _ hk => hk.2) (.int .i64 t520)) (fun _ hk => hk.2) (.slice Ao22 t521.length co22)) (fun _ hk => hk.2) (.bool t524)) (fun _ hk => trivial)⟩
  have n3 : Aside0 ((((w19.setCell ⟨gb525, 0, none⟩ (.int .i64 t520)).setCell ⟨gb525, 1, none⟩ (.slice Ao22 t521.length co22)).setCell ⟨gb525, 2, none⟩ (.bool t524)).heap[gb513]? = some (.cells #[.int .i64 t508, .int .i64 t509, .int .i64 t510, .int .i64 t511, .int .i64 t512] 25 (0, 0))) := ⟨by (with_reducible repeat (first | refine bN_ ?_ _ | refine bD_ ?_ | refine bA_ ?_ _)); refine blk_far ?_ NB513_525.out _; (with_reducible repeat (first | refine bN_ ?_ _ | refine bD_ ?_ | refine bA_ ?_ _)); refine blk_far ?_ NB513_525.out _; (with_reducible repeat (first | refine bN_ ?_ _ | refine bD_ ?_ | refine bA_ ?_ _)); refine blk_far ?_ NB513_525.out _; (with_reducible repeat (first | refine bN_ ?_ _ | refine bD_ ?_ | refine bA_ ?_ _)); exact BK513.out⟩
  have n4 : Aside0 ((((w19.setCell ⟨gb525, 0, none⟩ (.int .i64 t520)).setCell ⟨gb525, 1, none⟩ (.slice Ao22 t521.length co22)).setCell ⟨gb525, 2, none⟩ (.bool t524)).heap[gb525]? = some (.cells #[.int .i64 t520, .slice Ao22 t521.length co22, .bool t524] 33 (0, 0))) := ⟨by (with_reducible repeat (first | refine bN_ ?_ _ | refine bD_ ?_ | refine bA_ ?_ _)); refine blk_put (cs := #[.int .i64 t520, .slice Ao22 t521.length co22, .bool false]) ?_ 2 _ rfl; (with_reducible repeat (first | refine bN_ ?_ _ | refine bD_ ?_ | refine bA_ ?_ _)); refine blk_put (cs := #[.int .i64 t520, .slice none 0 0, .bool false]) ?_ 1 _ rfl; (with_reducible repeat (first | refine bN_ ?_ _ | refine bD_ ?_ | refine bA_ ?_ _)); refine blk_put (cs := #[.int .i64 0, .slice none 0 0, .bool false]) ?_ 0 _ rfl; (with_reducible repeat (first | refine bN_ ?_ _ | refine bD_ ?_ | refine bA_ ?_ _)); exact BK525.out⟩
  have n5 : Aside0 (Below w.heap.size w (((w19.setCell ⟨gb525, 0, none⟩ (.int .i64 t520)).setCell ⟨gb525, 1, none⟩ (.slice Ao22 t521.length co22)).setCell ⟨gb525, 2, none⟩ (.bool t524))) := ⟨gW_ HB.out⟩
  (try clear HO516)
  (try clear HO519)
  (try clear HO523)
  (try clear BK513)
  (try clear BK525)
  (try clear HB)
  generalize (((w19.setCell ⟨gb525, 0, none⟩ (.int .i64 t520)).setCell ⟨gb525, 1, none⟩ (.slice Ao22 t521.length co22)).setCell ⟨gb525, 2, none⟩ (.bool t524)) = w23 at n0 n1 n2 n3 n4 n5 ⊢
  have HO516 := n0
  have HO519 := n1
  have HO523 := n2
  have BK513 := n3
  have BK525 := n4
  have HB := n5
  clear n0 n1 n2 n3 n4 n5
  have n0 := aM_ (Kd.R_drew HO516.out)
  have n1 := aM_ (Kd.R_drew HO519.out)
  have n2 := aM_ (Kd.R_drew HO523.out)
  have n3 := aM_ (blk_drew BK513.out)
  have n4 := aM_ (blk_drew BK525.out)
  have n5 := aM_ (below_drew1 HB.out)
  clear HO516
  clear HO519
  clear HO523
  clear BK513
  clear BK525
  clear HB
  have HO516 := n0
  have HO519 := n1
  have HO523 := n2
  have BK513 := n3
  have BK525 := n4
  have HB := n5
  clear n0 n1 n2 n3 n4 n5
  refine start_ (n := 12) (S := fun w' => w'.cell? ⟨gb513, 0, none⟩ = some (.int .i64 t508) ∧ w'.cell? ⟨gb513, 1, none⟩ = some (.int .i64 t509) ∧ w'.cell? ⟨gb513, 2, none⟩ = some (.int .i64 t510) ∧ w'.cell? ⟨gb513, 3, none⟩ = some (.int .i64 t511) ∧ w'.cell? ⟨gb513, 4, none⟩ = some (.int .i64 t512) ∧ w'.cell? ⟨gb525, 0, none⟩ = some (.int .i64 t520) ∧ w'.cell? ⟨gb525, 1, none⟩ = some (.slice Ao22 t521.length co22) ∧ w'.cell? ⟨gb525, 2, none⟩ = some (.bool t524)) (ds := []) (mk_ 12 0) (by kernel_rfl) rfl rfl ⟨(blk_cell BK513.out 0).trans rfl, (blk_cell BK513.out 1).trans rfl, (blk_cell BK513.out 2).trans rfl, (blk_cell BK513.out 3).trans rfl, (blk_cell BK513.out 4).trans rfl, (blk_cell BK525.out 0).trans rfl, (blk_cell BK525.out 1).trans rfl, (blk_cell BK525.out 2).trans rfl⟩ (fun hHeld => ?_); refine with_tabW laws_FnTexts.tab7 laws_FnTexts.bits7 (fun HT_ HW_ => ?_)
  generalize w23.drew = w24 at HO516 HO519 HO523 BK513 BK525 HB hHeld ⊢
  refine pU_ 2 (some 25) (mk_ 12 4) ?_
  refine pU_ 4 (some 27) (mk_ 12 20) ?_
  refine tK8_ 0 (some 23) (mk_ 12 21) ?_
  refine tK8_ 6 (some 29) (mk_ 12 85) ?_
  refine oN_ 1 (some 24) (mk_ 12 87) (fun K hK => ?_)
  refine gO_ Tryd.func11 #[.agg #[.int .i64 t508, .int .i64 t509, .int .i64 t510, .int .i64 t511, .int .i64 t512]] ?_
  with_reducible refine (impl_StepText.calls k t508 t509 t510 t511 t512 t526 _ A8.out ?sT).mono ?_
  (case sT => exact TabL_ hT HB.out)
  rintro e w25 ⟨rfl, hb⟩
  refine ⟨_, rfl, ?_⟩
  have n0 := aM_ (bR_ HO516.out hb)
  have n1 := aM_ (bR_ HO519.out hb)
  have n2 := aM_ (bR_ HO523.out hb)
  have n3 := aM_ (nB_ BK513.out hb)
  have n4 := aM_ (nB_ BK525.out hb)
  have n5 := aM_ (sT_ HB.out hb)
  clear HO516
  clear HO519
  clear HO523
  clear BK513
  clear BK525
  clear HB
  have HO516 := n0
  have HO519 := n1
  have HO523 := n2
  have BK513 := n3
  have BK525 := n4
  have HB := n5
  clear n0 n1 n2 n3 n4 n5
  (try clear hb)
  (try clear hb2)
  (try clear hk)
  (try clear hi)
  obtain ⟨Ao26, co26, eo26⟩ := Kd.R_slice HO516.out
  (first | subst eo26 | (injection eo26 with f1_ f2_ f3_; have f4_ := f1_.symm; have f5_ := f3_.symm; clear f1_ f2_ f3_; subst f4_; subst f5_))
  refine hK.out _ _ ⟨(blk_cell BK513.out 0).trans rfl, (blk_cell BK513.out 1).trans rfl, (blk_cell BK513.out 2).trans rfl, (blk_cell BK513.out 3).trans rfl, (blk_cell BK513.out 4).trans rfl, (blk_cell BK525.out 0).trans rfl, (blk_cell BK525.out 1).trans rfl, (blk_cell BK525.out 2).trans rfl⟩ (fun hHeld => ?_)
  clear hK K
  refine norm_ (a' := ?_) ?_ ?_
  rotate_left
  ·show Act.put _ (some 24) _ = _
   simp only [pt_, pn_, sI_, s0_, s1_, i64_w, i32_w]
   rfl
  refine oN_ 3 (some 26) (mk_ 12 95) (fun K hK => ?_)
  refine gO_ Tryd.func12 #[.slice Ao26 t514.length co26] ?_
  with_reducible refine (impl_CodeText.calls k _ _ t514 t527 _ ?side1 ?side2 A9.out ?sT).mono ?_
  (case sT => exact TabL_ hT HB.out)
  (case side1 => exact cS_ (Kd.R_reads' HO516.out).2.2)
  (case side2 => exact (Kd.R_reads' HO516.out).2.1)
  rintro e w27 ⟨rfl, hb⟩
  refine ⟨_, rfl, ?_⟩
  have n0 := aM_ (bR_ HO516.out hb)
  have n1 := aM_ (bR_ HO519.out hb)
  have n2 := aM_ (bR_ HO523.out hb)
  have n3 := aM_ (nB_ BK513.out hb)
  have n4 := aM_ (nB_ BK525.out hb)
  have n5 := aM_ (sT_ HB.out hb)
  clear HO516
  clear HO519
  clear HO523
  clear BK513
  clear BK525
  clear HB
  have HO516 := n0
  have HO519 := n1
  have HO523 := n2
  have BK513 := n3
  have BK525 := n4
  have HB := n5
  clear n0 n1 n2 n3 n4 n5
  (try clear hb)
  (try clear hb2)
  (try clear hk)
  (try clear hi)
  obtain ⟨Ao28, co28, eo28⟩ := Kd.R_slice HO519.out
  (first | subst eo28 | (injection eo28 with f1_ f2_ f3_; have f4_ := f1_.symm; have f5_ := f3_.symm; clear f1_ f2_ f3_; subst f4_; subst f5_))
  refine hK.out _ _ ⟨(blk_cell BK513.out 0).trans rfl, (blk_cell BK513.out 1).trans rfl, (blk_cell BK513.out 2).trans rfl, (blk_cell BK513.out 3).trans rfl, (blk_cell BK513.out 4).trans rfl, (blk_cell BK525.out 0).trans rfl, (blk_cell BK525.out 1).trans rfl, (blk_cell BK525.out 2).trans rfl⟩ (fun hHeld => ?_)
  clear hK K
  refine norm_ (a' := ?_) ?_ ?_
  rotate_left
  ·show Act.put _ (some 26) _ = _
   simp only [pt_, pn_, sI_, s0_, s1_, i64_w, i32_w]
   rfl
  refine oN_ 5 (some 28) (mk_ 12 127) (fun K hK => ?_)
  refine gO_ Tryd.func13 #[.slice Ao28 t517.length co28] ?_
  with_reducible refine (impl_TraceText.calls k _ _ t517 t528 _ ?side1 ?side2 A10.out ?sT).mono ?_
  (case sT => exact TabL_ hT HB.out)
  (case side1 => exact cS_ (Kd.R_reads' HO519.out).2.2)
  (case side2 => exact (Kd.R_reads' HO519.out).2.1)
  rintro e w29 ⟨rfl, hb⟩
  refine ⟨_, rfl, ?_⟩
  have n0 := aM_ (bR_ HO516.out hb)
  have n1 := aM_ (bR_ HO519.out hb)
  have n2 := aM_ (bR_ HO523.out hb)
  have n3 := aM_ (nB_ BK513.out hb)
  have n4 := aM_ (nB_ BK525.out hb)
  have n5 := aM_ (sT_ HB.out hb)
  clear HO516
  clear HO519
  clear HO523
  clear BK513
  clear BK525
  clear HB
  have HO516 := n0
  have HO519 := n1
  have HO523 := n2
  have BK513 := n3
  have BK525 := n4
  have HB := n5
  clear n0 n1 n2 n3 n4 n5
  (try clear hb)
  (try clear hb2)
  (try clear hk)
  (try clear hi)
  refine hK.out _ _ ⟨(blk_cell BK513.out 0).trans rfl, (blk_cell BK513.out 1).trans rfl, (blk_cell BK513.out 2).trans rfl, (blk_cell BK513.out 3).trans rfl, (blk_cell BK513.out 4).trans rfl, (blk_cell BK525.out 0).trans rfl, (blk_cell BK525.out 1).trans rfl, (blk_cell BK525.out 2).trans rfl⟩ (fun hHeld => ?_)
  clear hK K
  refine norm_ (a' := ?_) ?_ ?_
  rotate_left
  ·show Act.put _ (some 28) _ = _
   simp only [pt_, pn_, sI_, s0_, s1_, i64_w, i32_w]
   rfl
  refine oN_ 7 (some 30) (mk_ 12 255) (fun K hK => ?_)
  refine gO_ Tryd.func14 #[.agg #[.int .i64 t520, .slice Ao22 t521.length co22, .bool t524]] ?_
  with_reducible refine (impl_ChanText.calls k t520 _ _ t521 t524 t529 _ ?side1 ?side2 A11.out ?sT).mono ?_
  (case sT => exact TabL_ hT HB.out)
  (case side1 => exact cS_ (Kd.R_reads' HO523.out).2.2)
  (case side2 => exact (Kd.R_reads' HO523.out).2.1)
  rintro e w30 ⟨rfl, hb⟩
  refine ⟨_, rfl, ?_⟩
  have n0 := aM_ (bR_ HO516.out hb)
  have n1 := aM_ (bR_ HO519.out hb)
  have n2 := aM_ (bR_ HO523.out hb)
  have n3 := aM_ (nB_ BK513.out hb)
  have n4 := aM_ (nB_ BK525.out hb)
  have n5 := aM_ (sT_ HB.out hb)
  clear HO516
  clear HO519
  clear HO523
  clear BK513
  clear BK525
  clear HB
  have HO516 := n0
  have HO519 := n1
  have HO523 := n2
  have BK513 := n3
  have BK525 := n4
  have HB := n5
  clear n0 n1 n2 n3 n4 n5
  (try clear hb)
  (try clear hb2)
  (try clear hk)
  (try clear hi)
  refine hK.out _ _ ⟨(blk_cell BK513.out 0).trans rfl, (blk_cell BK513.out 1).trans rfl, (blk_cell BK513.out 2).trans rfl, (blk_cell BK513.out 3).trans rfl, (blk_cell BK513.out 4).trans rfl, (blk_cell BK525.out 0).trans rfl, (blk_cell BK525.out 1).trans rfl, (blk_cell BK525.out 2).trans rfl⟩ (fun hHeld => ?_)
  clear hK K
  refine norm_ (a' := ?_) ?_ ?_
  rotate_left
  ·show Act.put _ (some 30) _ = _
   simp only [pt_, pn_, sI_, s0_, s1_, i64_w, i32_w]
   rfl
  refine pU_ 8 (some 7) (mk_ 12 511) ?_
  refine pU_ 9 (some 8) (mk_ 12 1023) ?_
  refine pU_ 10 (some 9) (mk_ 12 2047) ?_
  refine pU_ 11 (some 10) (mk_ 12 4095) ?_
  refine done_ (done_of HT_.out (by kernel_rfl)) ?_
  go_upto_region 8 with (fail)
  go_cut [52] (fun v52 wc => ∃ (kq : Nat) (x52_11 : Bool), v52 = .bool x52_11 ∧ Aside0 (laws_FnTexts.j0 kq t514 t526 t527 t528 t529 x52_11 t508 t509 t510 t511 t512 t520 t521 t524 = some r) ∧ Aside0 (kq ≤ k) ∧ Aside0 (Kd.R k25 25 wc w.heap.size (fun k_ => k_ ≠ gb513) (.slice Ao26 t514.length co26) t514) ∧ Aside0 (Kd.R (Kd.int .i64) 3 wc w.heap.size (fun _ => True) (.slice Ao22 t521.length co22) t521) ∧ Aside0 (wc.heap[gb513]? = some (.cells #[.int .i64 t508, .int .i64 t509, .int .i64 t510, .int .i64 t511, .int .i64 t512] 25 (0, 0))) ∧ Aside0 (wc.heap[gb525]? = some (.cells #[.int .i64 t520, (.slice Ao22 t521.length co22), .bool t524] 33 (0, 0))) ∧ Aside0 (Below w.heap.size w wc))
  case first =>
   have H := HC12.out
   clear HC12
   replace H := Option.bind_eq_some_iff.mp H
   obtain ⟨t530, A310, H⟩ := H
   replace H : (if t526.toList = t530.toList then ((spec_CodeText.f k t514).bind fun t531 => (if t527.toList = t531.toList then ((spec_TraceText.f k t517).bind fun t532 => (if t528.toList = t532.toList then ((spec_ChanText.f k t520 t521 t524).bind fun t533 => (laws_FnTexts.j0 k t514 t526 t527 t528 t529 (t529.toList != t533.toList) t508 t509 t510 t511 t512 t520 t521 t524)) else (laws_FnTexts.j0 k t514 t526 t527 t528 t529 true t508 t509 t510 t511 t512 t520 t521 t524))) else (laws_FnTexts.j0 k t514 t526 t527 t528 t529 true t508 t509 t510 t511 t512 t520 t521 t524))) else (laws_FnTexts.j0 k t514 t526 t527 t528 t529 true t508 t509 t510 t511 t512 t520 t521 t524)) = some r := H
   have A31 := aM_ A310
   clear A310
   by_cases c32 : t526.toList = t530.toList
   ·rw [if_pos c32] at H
    have c32b0 : (t526.toList == t530.toList) = true := beq_iff_eq.mpr c32
    have c32b1 : (t526.toList != t530.toList) = false := bne_eq_false_iff_eq.mpr c32
    clear c32
    (first | rw [c32b0] | (simp only [i64_w, i32_w]; rw [c32b0]) | skip)
    replace H := Option.bind_eq_some_iff.mp H
    obtain ⟨t531, A330, H⟩ := H
    replace H : (if t527.toList = t531.toList then ((spec_TraceText.f k t517).bind fun t532 => (if t528.toList = t532.toList then ((spec_ChanText.f k t520 t521 t524).bind fun t533 => (laws_FnTexts.j0 k t514 t526 t527 t528 t529 (t529.toList != t533.toList) t508 t509 t510 t511 t512 t520 t521 t524)) else (laws_FnTexts.j0 k t514 t526 t527 t528 t529 true t508 t509 t510 t511 t512 t520 t521 t524))) else (laws_FnTexts.j0 k t514 t526 t527 t528 t529 true t508 t509 t510 t511 t512 t520 t521 t524)) = some r := H
    have A33 := aM_ A330
    clear A330
    by_cases c34 : t527.toList = t531.toList
    ·rw [if_pos c34] at H
     have c34b0 : (t527.toList == t531.toList) = true := beq_iff_eq.mpr c34
     have c34b1 : (t527.toList != t531.toList) = false := bne_eq_false_iff_eq.mpr c34
     clear c34
     replace H := Option.bind_eq_some_iff.mp H
     obtain ⟨t532, A350, H⟩ := H
     replace H : (if t528.toList = t532.toList then ((spec_ChanText.f k t520 t521 t524).bind fun t533 => (laws_FnTexts.j0 k t514 t526 t527 t528 t529 (t529.toList != t533.toList) t508 t509 t510 t511 t512 t520 t521 t524)) else (laws_FnTexts.j0 k t514 t526 t527 t528 t529 true t508 t509 t510 t511 t512 t520 t521 t524)) = some r := H
     have A35 := aM_ A350
     clear A350
     by_cases c36 : t528.toList = t532.toList
     ·rw [if_pos c36] at H
      have c36b0 : (t528.toList == t532.toList) = true := beq_iff_eq.mpr c36
      have c36b1 : (t528.toList != t532.toList) = false := bne_eq_false_iff_eq.mpr c36
      clear c36
      replace H := Option.bind_eq_some_iff.mp H
      obtain ⟨t533, A370, H⟩ := H
      replace H : (laws_FnTexts.j0 k t514 t526 t527 t528 t529 (t529.toList != t533.toList) t508 t509 t510 t511 t512 t520 t521 t524) = some r := H
      have A37 := aM_ A370
      clear A370
      have H' := aM_ H
      clear H
      have hnb38 := NB513_525.out
      have hnc38 := NB525_513.out
      obtain ⟨hcz39_0, hcz39_1, hcz39_2, hcz39_3, hcz39_4, hfz39_0, hfz39_1, hfz39_2, hfz39_3, hfz39_4⟩ := bR5_ BK513.out
      go_wp2_with (first | ((with_reducible refine gate_callee (f := 15) rfl ?_); refine gL_ (some 33) Tryd.func15 #[.agg #[.int .i64 t508, .int .i64 t509, .int .i64 t510, .int .i64 t511, .int .i64 t512]] ?_; (with_reducible refine (spec_StepText.calls k t508 t509 t510 t511 t512 t530 _ A31.out).mono ?_); rintro e w40 ⟨rfl, hb⟩; refine ⟨_, rfl, ?_⟩; have n0 := aM_ (bR_ HO516.out hb); have n1 := aM_ (bR_ HO519.out hb); have n2 := aM_ (bR_ HO523.out hb); have n3 := aM_ (nB_ BK513.out hb); have n4 := aM_ (nB_ BK525.out hb); have n5 := aM_ (sT_ HB.out hb); clear HO516; clear HO519; clear HO523; clear BK513; clear BK525; clear HB; have HO516 := n0; have HO519 := n1; have HO523 := n2; have BK513 := n3; have BK525 := n4; have HB := n5; clear n0 n1 n2 n3 n4 n5) | (go_at_call 16; (with_reducible refine (spec_CodeText.calls k _ _ t514 t531 _ ?side1 ?side2 A33.out).mono ?_); (case side1 => exact cS_ (Kd.R_reads' HO516.out).2.2); (case side2 => exact (Kd.R_reads' HO516.out).2.1); rintro e w41 ⟨rfl, hb⟩; have n0 := aM_ (bR_ HO516.out hb); have n1 := aM_ (bR_ HO519.out hb); have n2 := aM_ (bR_ HO523.out hb); have n3 := aM_ (nB_ BK513.out hb); have n4 := aM_ (nB_ BK525.out hb); have n5 := aM_ (sT_ HB.out hb); clear HO516; clear HO519; clear HO523; clear BK513; clear BK525; clear HB; have HO516 := n0; have HO519 := n1; have HO523 := n2; have BK513 := n3; have BK525 := n4; have HB := n5; clear n0 n1 n2 n3 n4 n5) | (go_at_call 17; (with_reducible refine (spec_TraceText.calls k _ _ t517 t532 _ ?side1 ?side2 A35.out).mono ?_); (case side1 => exact cS_ (Kd.R_reads' HO519.out).2.2); (case side2 => exact (Kd.R_reads' HO519.out).2.1); rintro e w42 ⟨rfl, hb⟩; have n0 := aM_ (bR_ HO516.out hb); have n1 := aM_ (bR_ HO519.out hb); have n2 := aM_ (bR_ HO523.out hb); have n3 := aM_ (nB_ BK513.out hb); have n4 := aM_ (nB_ BK525.out hb); have n5 := aM_ (sT_ HB.out hb); clear HO516; clear HO519; clear HO523; clear BK513; clear BK525; clear HB; have HO516 := n0; have HO519 := n1; have HO523 := n2; have BK513 := n3; have BK525 := n4; have HB := n5; clear n0 n1 n2 n3 n4 n5; obtain ⟨hcz43_0, hcz43_1, hcz43_2, hfz43_0, hfz43_1, hfz43_2⟩ := bR3_ BK525.out) | (go_at_call 18; (with_reducible refine (spec_ChanText.calls k t520 _ _ t521 t524 t533 _ ?side1 ?side2 A37.out).mono ?_); (case side1 => exact cS_ (Kd.R_reads' HO523.out).2.2); (case side2 => exact (Kd.R_reads' HO523.out).2.1); rintro e w44 ⟨rfl, hb⟩; have n0 := aM_ (bR_ HO516.out hb); have n1 := aM_ (bR_ HO519.out hb); have n2 := aM_ (bR_ HO523.out hb); have n3 := aM_ (nB_ BK513.out hb); have n4 := aM_ (nB_ BK525.out hb); have n5 := aM_ (sT_ HB.out hb); clear HO516; clear HO519; clear HO523; clear BK513; clear BK525; clear HB; have HO516 := n0; have HO519 := n1; have HO523 := n2; have BK513 := n3; have BK525 := n4; have HB := n5; clear n0 n1 n2 n3 n4 n5))
      go_meet
      case rel => exact ⟨_, ((t529.toList != t533.toList)), (by first | rfl | (simp; done) | (simp [*]; done)), H', ⟨by first | omega | exact Nat.le_refl _⟩, ⟨by (with_reducible repeat (first | apply rA_ | apply rN_ | apply rD_)); exact HO516.out⟩, ⟨by (with_reducible repeat (first | apply rA_ | apply rN_ | apply rD_)); exact HO523.out⟩, ⟨rW_ BK513.out⟩, ⟨rW_ BK525.out⟩, ⟨gW_ HB.out⟩⟩
     ·rw [if_neg c36] at H
      have c36b0 : (t528.toList == t532.toList) = false := beq_eq_false_iff_ne.mpr c36
      have c36b1 : (t528.toList != t532.toList) = true := bne_iff_ne.mpr c36
      have H' := aM_ H
      clear H
      have hnb45 := NB513_525.out
      have hnc45 := NB525_513.out
      obtain ⟨hcz46_0, hcz46_1, hcz46_2, hcz46_3, hcz46_4, hfz46_0, hfz46_1, hfz46_2, hfz46_3, hfz46_4⟩ := bR5_ BK513.out
      go_wp2_with (first | ((with_reducible refine gate_callee (f := 15) rfl ?_); refine gL_ (some 33) Tryd.func15 #[.agg #[.int .i64 t508, .int .i64 t509, .int .i64 t510, .int .i64 t511, .int .i64 t512]] ?_; (with_reducible refine (spec_StepText.calls k t508 t509 t510 t511 t512 t530 _ A31.out).mono ?_); rintro e w47 ⟨rfl, hb⟩; refine ⟨_, rfl, ?_⟩; have n0 := aM_ (bR_ HO516.out hb); have n1 := aM_ (bR_ HO519.out hb); have n2 := aM_ (bR_ HO523.out hb); have n3 := aM_ (nB_ BK513.out hb); have n4 := aM_ (nB_ BK525.out hb); have n5 := aM_ (sT_ HB.out hb); clear HO516; clear HO519; clear HO523; clear BK513; clear BK525; clear HB; have HO516 := n0; have HO519 := n1; have HO523 := n2; have BK513 := n3; have BK525 := n4; have HB := n5; clear n0 n1 n2 n3 n4 n5) | (go_at_call 16; (with_reducible refine (spec_CodeText.calls k _ _ t514 t531 _ ?side1 ?side2 A33.out).mono ?_); (case side1 => exact cS_ (Kd.R_reads' HO516.out).2.2); (case side2 => exact (Kd.R_reads' HO516.out).2.1); rintro e w48 ⟨rfl, hb⟩; have n0 := aM_ (bR_ HO516.out hb); have n1 := aM_ (bR_ HO519.out hb); have n2 := aM_ (bR_ HO523.out hb); have n3 := aM_ (nB_ BK513.out hb); have n4 := aM_ (nB_ BK525.out hb); have n5 := aM_ (sT_ HB.out hb); clear HO516; clear HO519; clear HO523; clear BK513; clear BK525; clear HB; have HO516 := n0; have HO519 := n1; have HO523 := n2; have BK513 := n3; have BK525 := n4; have HB := n5; clear n0 n1 n2 n3 n4 n5) | (go_at_call 17; (with_reducible refine (spec_TraceText.calls k _ _ t517 t532 _ ?side1 ?side2 A35.out).mono ?_); (case side1 => exact cS_ (Kd.R_reads' HO519.out).2.2); (case side2 => exact (Kd.R_reads' HO519.out).2.1); rintro e w49 ⟨rfl, hb⟩; have n0 := aM_ (bR_ HO516.out hb); have n1 := aM_ (bR_ HO519.out hb); have n2 := aM_ (bR_ HO523.out hb); have n3 := aM_ (nB_ BK513.out hb); have n4 := aM_ (nB_ BK525.out hb); have n5 := aM_ (sT_ HB.out hb); clear HO516; clear HO519; clear HO523; clear BK513; clear BK525; clear HB; have HO516 := n0; have HO519 := n1; have HO523 := n2; have BK513 := n3; have BK525 := n4; have HB := n5; clear n0 n1 n2 n3 n4 n5))
      go_meet
      case rel => exact ⟨_, (true), (by first | rfl | (simp; done) | (simp [*]; done)), H', ⟨by first | omega | exact Nat.le_refl _⟩, ⟨by (with_reducible repeat (first | apply rA_ | apply rN_ | apply rD_)); exact HO516.out⟩, ⟨by (with_reducible repeat (first | apply rA_ | apply rN_ | apply rD_)); exact HO523.out⟩, ⟨rW_ BK513.out⟩, ⟨rW_ BK525.out⟩, ⟨gW_ HB.out⟩⟩
    ·rw [if_neg c34] at H
     have c34b0 : (t527.toList == t531.toList) = false := beq_eq_false_iff_ne.mpr c34
     have c34b1 : (t527.toList != t531.toList) = true := bne_iff_ne.mpr c34
     have H' := aM_ H
     clear H
     have hnb50 := NB513_525.out
     have hnc50 := NB525_513.out
     obtain ⟨hcz51_0, hcz51_1, hcz51_2, hcz51_3, hcz51_4, hfz51_0, hfz51_1, hfz51_2, hfz51_3, hfz51_4⟩ := bR5_ BK513.out
     go_wp2_with (first | ((with_reducible refine gate_callee (f := 15) rfl ?_); refine gL_ (some 33) Tryd.func15 #[.agg #[.int .i64 t508, .int .i64 t509, .int .i64 t510, .int .i64 t511, .int .i64 t512]] ?_; (with_reducible refine (spec_StepText.calls k t508 t509 t510 t511 t512 t530 _ A31.out).mono ?_); rintro e w52 ⟨rfl, hb⟩; refine ⟨_, rfl, ?_⟩; have n0 := aM_ (bR_ HO516.out hb); have n1 := aM_ (bR_ HO519.out hb); have n2 := aM_ (bR_ HO523.out hb); have n3 := aM_ (nB_ BK513.out hb); have n4 := aM_ (nB_ BK525.out hb); have n5 := aM_ (sT_ HB.out hb); clear HO516; clear HO519; clear HO523; clear BK513; clear BK525; clear HB; have HO516 := n0; have HO519 := n1; have HO523 := n2; have BK513 := n3; have BK525 := n4; have HB := n5; clear n0 n1 n2 n3 n4 n5) | (go_at_call 16; (with_reducible refine (spec_CodeText.calls k _ _ t514 t531 _ ?side1 ?side2 A33.out).mono ?_); (case side1 => exact cS_ (Kd.R_reads' HO516.out).2.2); (case side2 => exact (Kd.R_reads' HO516.out).2.1); rintro e w53 ⟨rfl, hb⟩; have n0 := aM_ (bR_ HO516.out hb); have n1 := aM_ (bR_ HO519.out hb); have n2 := aM_ (bR_ HO523.out hb); have n3 := aM_ (nB_ BK513.out hb); have n4 := aM_ (nB_ BK525.out hb); have n5 := aM_ (sT_ HB.out hb); clear HO516; clear HO519; clear HO523; clear BK513; clear BK525; clear HB; have HO516 := n0; have HO519 := n1; have HO523 := n2; have BK513 := n3; have BK525 := n4; have HB := n5; clear n0 n1 n2 n3 n4 n5))
     go_meet
     case rel => exact ⟨_, (true), (by first | rfl | (simp; done) | (simp [*]; done)), H', ⟨by first | omega | exact Nat.le_refl _⟩, ⟨by (with_reducible repeat (first | apply rA_ | apply rN_ | apply rD_)); exact HO516.out⟩, ⟨by (with_reducible repeat (first | apply rA_ | apply rN_ | apply rD_)); exact HO523.out⟩, ⟨rW_ BK513.out⟩, ⟨rW_ BK525.out⟩, ⟨gW_ HB.out⟩⟩
   ·rw [if_neg c32] at H
    have c32b0 : (t526.toList == t530.toList) = false := beq_eq_false_iff_ne.mpr c32
    have c32b1 : (t526.toList != t530.toList) = true := bne_iff_ne.mpr c32
    (first | rw [c32b0] | (simp only [i64_w, i32_w]; rw [c32b0]) | skip)
    have H' := aM_ H
    clear H
    have hnb54 := NB513_525.out
    have hnc54 := NB525_513.out
    obtain ⟨hcz55_0, hcz55_1, hcz55_2, hcz55_3, hcz55_4, hfz55_0, hfz55_1, hfz55_2, hfz55_3, hfz55_4⟩ := bR5_ BK513.out
    go_wp2_with (first | ((with_reducible refine gate_callee (f := 15) rfl ?_); refine gL_ (some 33) Tryd.func15 #[.agg #[.int .i64 t508, .int .i64 t509, .int .i64 t510, .int .i64 t511, .int .i64 t512]] ?_; (with_reducible refine (spec_StepText.calls k t508 t509 t510 t511 t512 t530 _ A31.out).mono ?_); rintro e w56 ⟨rfl, hb⟩; refine ⟨_, rfl, ?_⟩; have n0 := aM_ (bR_ HO516.out hb); have n1 := aM_ (bR_ HO519.out hb); have n2 := aM_ (bR_ HO523.out hb); have n3 := aM_ (nB_ BK513.out hb); have n4 := aM_ (nB_ BK525.out hb); have n5 := aM_ (sT_ HB.out hb); clear HO516; clear HO519; clear HO523; clear BK513; clear BK525; clear HB; have HO516 := n0; have HO519 := n1; have HO523 := n2; have BK513 := n3; have BK525 := n4; have HB := n5; clear n0 n1 n2 n3 n4 n5))
    go_meet
    case rel => exact ⟨_, (true), (by first | rfl | (simp; done) | (simp [*]; done)), H', ⟨by first | omega | exact Nat.le_refl _⟩, ⟨by (with_reducible repeat (first | apply rA_ | apply rN_ | apply rD_)); exact HO516.out⟩, ⟨by (with_reducible repeat (first | apply rA_ | apply rN_ | apply rD_)); exact HO523.out⟩, ⟨rW_ BK513.out⟩, ⟨rW_ BK525.out⟩, ⟨gW_ HB.out⟩⟩
  case rest =>
   clear HC12
   try clear c1
   try clear c2
   try clear p2
   try clear c3
   try clear c4
   try clear c5
   try clear c6
   try clear c7
   try clear c8
   try clear c9
   try clear c10
   try clear c11
   try clear c12
   try clear c13
   try clear c14
   try clear c15
   try clear c20
   try clear c32
   try clear c32b0
   try clear c32b1
   try clear c34
   try clear c34b0
   try clear c34b1
   try clear c36
   try clear c36b0
   try clear c36b1
   try clear c38
   try clear c45
   try clear c50
   try clear c54
   try clear hcz15_0 hcz15_1 hcz15_2 hcz15_3 hcz15_4 hfz15_0 hfz15_1 hfz15_2 hfz15_3 hfz15_4
   try clear hcz21_0 hcz21_1 hcz21_2 hfz21_0 hfz21_1 hfz21_2
   try clear hcz39_0 hcz39_1 hcz39_2 hcz39_3 hcz39_4 hfz39_0 hfz39_1 hfz39_2 hfz39_3 hfz39_4
   try clear hcz43_0 hcz43_1 hcz43_2 hfz43_0 hfz43_1 hfz43_2
   try clear hcz46_0 hcz46_1 hcz46_2 hcz46_3 hcz46_4 hfz46_0 hfz46_1 hfz46_2 hfz46_3 hfz46_4
   try clear hcz51_0 hcz51_1 hcz51_2 hcz51_3 hcz51_4 hfz51_0 hfz51_1 hfz51_2 hfz51_3 hfz51_4
   try clear hcz55_0 hcz55_1 hcz55_2 hcz55_3 hcz55_4 hfz55_0 hfz55_1 hfz55_2 hfz55_3 hfz55_4
   obtain ⟨kq, x52_11, rfl, HA, HJ11, HO_4, HO_526001, BK513, BK525, HB⟩ := hcut
   cases kq with
   | zero => exact absurd HA.out (by simp [laws_FnTexts.j0])
   | succ kj11 =>
    have H := HA.out
    clear HA
    simp only [laws_FnTexts.j0] at H
    by_cases c57 : x52_11 = true
    ·subst c57
     have H1 : (some false) = some r := by rw [if_pos rfl] at H; exact H
     clear H
     have H := H1
     clear H1
     obtain rfl := Option.some.inj H
     go_wp2
     go_ret
     exact fI_ HB.out
    ·replace c57 := Bool.eq_false_iff.mpr c57
     subst c57
     have H1 : (laws_FnTexts.l0 kj11 t514 t526 t527 t528 t529 0 0 t508 t509 t510 t511 t512 t520 t521 t524) = some r := by rw [if_neg (show ¬ (false = true) by decide)] at H; exact H
     clear H
     have H := H1
     clear H1
     have H' := aM_ H
     clear H
     go_wp2
     go_loopg [11, 12] kj11 (fun kq v11 v12 w' => ∃ (x11_2 : Int) (x12_2 : Int), v11 = .int .i64 x11_2 ∧ v12 = .int .i64 x12_2 ∧ Aside0 (laws_FnTexts.l0 kq t514 t526 t527 t528 t529 x11_2 x12_2 t508 t509 t510 t511 t512 t520 t521 t524 = some r) ∧ Aside0 (kq ≤ kj11) ∧ Aside0 (Kd.R k25 25 w' w.heap.size (fun k_ => k_ ≠ gb513) (.slice Ao26 t514.length co26) t514) ∧ Aside0 (Kd.R (Kd.int .i64) 3 w' w.heap.size (fun _ => True) (.slice Ao22 t521.length co22) t521) ∧ Aside0 (w'.heap[gb513]? = some (.cells #[.int .i64 t508, .int .i64 t509, .int .i64 t510, .int .i64 t511, .int .i64 t512] 25 (0, 0))) ∧ Aside0 (w'.heap[gb525]? = some (.cells #[.int .i64 t520, (.slice Ao22 t521.length co22), .bool t524] 33 (0, 0))) ∧ Aside0 (Below w.heap.size w w'))
     case atStart => exact ⟨(0), (0), (by first | rfl | (simp; done) | (simp [*]; done)), (by first | rfl | (simp; done) | (simp [*]; done)), H', ⟨Nat.le_refl _⟩, ⟨by (with_reducible repeat (first | apply rA_ | apply rN_ | apply rD_)); exact HO_4.out⟩, ⟨by (with_reducible repeat (first | apply rA_ | apply rN_ | apply rD_)); exact HO_526001.out⟩, ⟨rW_ BK513.out⟩, ⟨rW_ BK525.out⟩, ⟨gW_ HB.out⟩⟩
     case round =>
      clear H'
      try clear c1
      try clear c2
      try clear p2
      try clear c3
      try clear c4
      try clear c5
      try clear c6
      try clear c7
      try clear c8
      try clear c9
      try clear c10
      try clear c11
      try clear c12
      try clear c13
      try clear c14
      try clear c15
      try clear c20
      try clear c32
      try clear c32b0
      try clear c32b1
      try clear c34
      try clear c34b0
      try clear c34b1
      try clear c36
      try clear c36b0
      try clear c36b1
      try clear c38
      try clear c45
      try clear c50
      try clear c54
      try clear c57
      try clear hcz15_0 hcz15_1 hcz15_2 hcz15_3 hcz15_4 hfz15_0 hfz15_1 hfz15_2 hfz15_3 hfz15_4
      try clear hcz21_0 hcz21_1 hcz21_2 hfz21_0 hfz21_1 hfz21_2
      try clear hcz39_0 hcz39_1 hcz39_2 hcz39_3 hcz39_4 hfz39_0 hfz39_1 hfz39_2 hfz39_3 hfz39_4
      try clear hcz43_0 hcz43_1 hcz43_2 hfz43_0 hfz43_1 hfz43_2
      try clear hcz46_0 hcz46_1 hcz46_2 hcz46_3 hcz46_4 hfz46_0 hfz46_1 hfz46_2 hfz46_3 hfz46_4
      try clear hcz51_0 hcz51_1 hcz51_2 hcz51_3 hcz51_4 hfz51_0 hfz51_1 hfz51_2 hfz51_3 hfz51_4
      try clear hcz55_0 hcz55_1 hcz55_2 hcz55_3 hcz55_4 hfz55_0 hfz55_1 hfz55_2 hfz55_3 hfz55_4
      try clear p2
      obtain ⟨x11_2, x12_2, rfl, rfl, HA, HK2, HO_4, HO_526001, BK513, BK525, HB⟩ := hrel
      cases gk with
      | zero => exact absurd HA.out (by simp [laws_FnTexts.l0])
      | succ k2 =>
       have H := HA.out
       clear HA
       simp only [laws_FnTexts.l0] at H
       by_cases c58 : x12_2 < (t527.size : Int)
       ·rw [if_pos c58] at H
        have c58b0 : decide (x12_2 < (t527.size : Int)) = true := decide_eq_true c58
        clear c58
        by_cases c59 : 0 ≤ x12_2
        ·rw [if_pos c59] at H
         have c59b0 : decide (0 ≤ x12_2) = true := decide_eq_true c59
         clear c59
         by_cases c61 : (bt t527 x12_2) = 10
         ·rw [if_pos c61] at H
          have c61b0 : ((bt t527 x12_2) == 10) = true := beq_iff_eq.mpr c61
          have c61b1 : ((bt t527 x12_2) != 10) = false := bne_eq_false_iff_eq.mpr c61
          clear c61
          have H' := aM_ H
          clear H
          have p60 : 0 ≤ (x12_2 : Int) := of_decide_eq_true (by first | (with_reducible assumption) | assumption)
          have q60 : x12_2 < (t527.size : Int) := of_decide_eq_true (by first | (with_reducible assumption) | assumption)
          have hx60 := bt_at t527 x12_2
          replace p60 := eq_true p60
          replace q60 := eq_true q60
          go_wp2
          go_roundg k2
          case measure => have := HJ11.out; have := HK2.out; omega
          case rel => exact ⟨(wrap64 (x11_2 + 1)), (wrap64 (x12_2 + 1)), (by first | rfl | (simp; done) | (simp [*]; done)), (by first | rfl | (simp; done) | (simp [*]; done)), H', ⟨by have := HJ11.out; have := HK2.out; omega⟩, ⟨by (with_reducible repeat (first | apply rA_ | apply rN_ | apply rD_)); exact HO_4.out⟩, ⟨by (with_reducible repeat (first | apply rA_ | apply rN_ | apply rD_)); exact HO_526001.out⟩, ⟨rW_ BK513.out⟩, ⟨rW_ BK525.out⟩, ⟨gW_ HB.out⟩⟩
         ·rw [if_neg c61] at H
          have c61b0 : ((bt t527 x12_2) == 10) = false := beq_eq_false_iff_ne.mpr c61
          have c61b1 : ((bt t527 x12_2) != 10) = true := bne_iff_ne.mpr c61
          have H' := aM_ H
          clear H
          have p60 : 0 ≤ (x12_2 : Int) := of_decide_eq_true (by first | (with_reducible assumption) | assumption)
          have q60 : x12_2 < (t527.size : Int) := of_decide_eq_true (by first | (with_reducible assumption) | assumption)
          have hx60 := bt_at t527 x12_2
          replace p60 := eq_true p60
          replace q60 := eq_true q60
          go_wp2
          go_roundg k2
          case measure => have := HJ11.out; have := HK2.out; omega
          case rel => exact ⟨(x11_2), (wrap64 (x12_2 + 1)), (by first | rfl | (simp; done) | (simp [*]; done)), (by first | rfl | (simp; done) | (simp [*]; done)), H', ⟨by have := HJ11.out; have := HK2.out; omega⟩, ⟨by (with_reducible repeat (first | apply rA_ | apply rN_ | apply rD_)); exact HO_4.out⟩, ⟨by (with_reducible repeat (first | apply rA_ | apply rN_ | apply rD_)); exact HO_526001.out⟩, ⟨rW_ BK513.out⟩, ⟨rW_ BK525.out⟩, ⟨gW_ HB.out⟩⟩
        ·rw [if_neg c59] at H
         exact absurd H (by simp)
       ·rw [if_neg c58] at H
        have c58b0 : decide (x12_2 < (t527.size : Int)) = false := decide_eq_false c58
        clear c58
        replace H := Option.bind_eq_some_iff.mp H
        obtain ⟨t534, A620, H⟩ := H
        replace H : (if ((t526.toList != ([] : List UInt8)) == t534) = true then ((impl_ChanOk.f t520 t521 t524).bind fun t535 => (if ((t529.toList != ([] : List UInt8)) == t535) = true then (if t528.toList = ([] : List UInt8) then (some false) else (if x11_2 = (t514.length : Int) then ((impl_CodeOk.f k2 t514).bind fun t536 => (if t536 = true then (some true) else (if t527.toList = ([] : List UInt8) then ((impl_CodeOk.f k2 t514).bind fun t537 => (some (!t537))) else (some false)))) else (if t527.toList = ([] : List UInt8) then ((impl_CodeOk.f k2 t514).bind fun t538 => (some (!t538))) else (some false)))) else (some false))) else (some false)) = some r := H
        have A62 := aM_ A620
        clear A620
        by_cases c63 : ((t526.toList != ([] : List UInt8)) == t534) = true
        ·rw [if_pos c63] at H
         have c63b0 : ((t526.toList != ([] : List UInt8)) == t534) = true := c63
         have c63e : ((!t526.toList.isEmpty) == t534) = true := by rw [← show (t526.toList != ([] : List UInt8)) = (!t526.toList.isEmpty) from (by cases t526.toList <;> rfl)]; exact c63b0
         have c63f : ¬ (((!t526.toList.isEmpty) == t534) = false) := by rw [c63e]; decide
         (try (have c63b1 : decide ((t526.toList != ([] : List UInt8)) = t534) = true := by simpa using c63))
         (try (have c63b2 : ((t526.toList != ([] : List UInt8)) == t534) = true := by simpa using c63))
         clear c63
         replace H := Option.bind_eq_some_iff.mp H
         obtain ⟨t535, A640, H⟩ := H
         replace H : (if ((t529.toList != ([] : List UInt8)) == t535) = true then (if t528.toList = ([] : List UInt8) then (some false) else (if x11_2 = (t514.length : Int) then ((impl_CodeOk.f k2 t514).bind fun t536 => (if t536 = true then (some true) else (if t527.toList = ([] : List UInt8) then ((impl_CodeOk.f k2 t514).bind fun t537 => (some (!t537))) else (some false)))) else (if t527.toList = ([] : List UInt8) then ((impl_CodeOk.f k2 t514).bind fun t538 => (some (!t538))) else (some false)))) else (some false)) = some r := H
         have A64 := aM_ A640
         clear A640
         by_cases c65 : ((t529.toList != ([] : List UInt8)) == t535) = true
         ·rw [if_pos c65] at H
          have c65b0 : ((t529.toList != ([] : List UInt8)) == t535) = true := c65
          have c65e : ((!t529.toList.isEmpty) == t535) = true := by rw [← show (t529.toList != ([] : List UInt8)) = (!t529.toList.isEmpty) from (by cases t529.toList <;> rfl)]; exact c65b0
          have c65f : ¬ (((!t529.toList.isEmpty) == t535) = false) := by rw [c65e]; decide
          (try (have c65b1 : decide ((t529.toList != ([] : List UInt8)) = t535) = true := by simpa using c65))
          (try (have c65b2 : ((t529.toList != ([] : List UInt8)) == t535) = true := by simpa using c65))
          clear c65
          by_cases c66 : t528.toList = ([] : List UInt8)
          ·rw [if_pos c66] at H
           have c66b0 : (t528.toList == ([] : List UInt8)) = true := beq_iff_eq.mpr c66
           have c66e : t528.toList.isEmpty = true := List.isEmpty_iff.mpr c66
           have c66f : ¬ ((!t528.toList.isEmpty) = true) := by rw [c66e]; decide
           have c66g : ¬ (t528.toList.isEmpty = false) := by rw [c66e]; decide
           have c66b1 : (t528.toList != ([] : List UInt8)) = false := bne_eq_false_iff_eq.mpr c66
           clear c66
           obtain rfl := Option.some.inj H
           have hnb67 := NB513_525.out
           have hnc67 := NB525_513.out
           obtain ⟨hcz68_0, hcz68_1, hcz68_2, hcz68_3, hcz68_4, hfz68_0, hfz68_1, hfz68_2, hfz68_3, hfz68_4⟩ := bR5_ BK513.out
           go_wp2_with (first | ((with_reducible refine gate_callee (f := 19) rfl ?_); refine gL_ (some 68) Tryd.func19 #[.agg #[.int .i64 t508, .int .i64 t509, .int .i64 t510, .int .i64 t511, .int .i64 t512], .int .i64 800] ?_; (with_reducible refine (impl_StepOk.calls k2 t508 t509 t510 t511 t512 800 t534 _ A62.out).mono ?_); rintro e w69 ⟨rfl, hb⟩; refine ⟨_, rfl, ?_⟩; have n0 := aM_ (bR_ HO_4.out hb); have n1 := aM_ (bR_ HO_526001.out hb); have n2 := aM_ (nB_ BK513.out hb); have n3 := aM_ (nB_ BK525.out hb); have n4 := aM_ (sT_ HB.out hb); clear HO_4; clear HO_526001; clear BK513; clear BK525; clear HB; have HO_4 := n0; have HO_526001 := n1; have BK513 := n2; have BK525 := n3; have HB := n4; clear n0 n1 n2 n3 n4; obtain ⟨hcz70_0, hcz70_1, hcz70_2, hfz70_0, hfz70_1, hfz70_2⟩ := bR3_ BK525.out) | (go_at_call 20; (with_reducible refine (impl_ChanOk.calls t520 _ _ t521 t524 t535 _ ?side1 ?side2 A64.out).mono ?_); (case side1 => exact cS_ (Kd.R_reads' HO_526001.out).2.2); (case side2 => exact (Kd.R_reads' HO_526001.out).2.1); rintro e w71 ⟨rfl, hb⟩; have n0 := aM_ (bR_ HO_4.out hb); have n1 := aM_ (bR_ HO_526001.out hb); have n2 := aM_ (nB_ BK513.out hb); have n3 := aM_ (nB_ BK525.out hb); have n4 := aM_ (sT_ HB.out hb); clear HO_4; clear HO_526001; clear BK513; clear BK525; clear HB; have HO_4 := n0; have HO_526001 := n1; have BK513 := n2; have BK525 := n3; have HB := n4; clear n0 n1 n2 n3 n4))
           go_ret
           exact fI_ HB.out
          ·rw [if_neg c66] at H
           have c66b0 : (t528.toList == ([] : List UInt8)) = false := beq_eq_false_iff_ne.mpr c66
           have c66e : t528.toList.isEmpty = false := (by rw [← Bool.not_eq_true, List.isEmpty_iff]; exact c66)
           have c66f : ¬ ((!t528.toList.isEmpty) = false) := by rw [c66e]; decide
           have c66g : ¬ (t528.toList.isEmpty = true) := by rw [c66e]; decide
           have c66b1 : (t528.toList != ([] : List UInt8)) = true := bne_iff_ne.mpr c66
           by_cases c72 : x11_2 = (t514.length : Int)
           ·rw [if_pos c72] at H
            have c72b0 : (x11_2 == (t514.length : Int)) = true := beq_iff_eq.mpr c72
            have c72b1 : (x11_2 != (t514.length : Int)) = false := bne_eq_false_iff_eq.mpr c72
            clear c72
            replace H := Option.bind_eq_some_iff.mp H
            obtain ⟨t536, A730, H⟩ := H
            replace H : (if t536 = true then (some true) else (if t527.toList = ([] : List UInt8) then ((impl_CodeOk.f k2 t514).bind fun t537 => (some (!t537))) else (some false))) = some r := H
            have A73 := aM_ A730
            clear A730
            by_cases c74 : t536 = true
            ·subst c74
             have H1 : (some true) = some r := by rw [if_pos rfl] at H; exact H
             clear H
             have H := H1
             clear H1
             obtain rfl := Option.some.inj H
             have hnb75 := NB513_525.out
             have hnc75 := NB525_513.out
             obtain ⟨hcz76_0, hcz76_1, hcz76_2, hcz76_3, hcz76_4, hfz76_0, hfz76_1, hfz76_2, hfz76_3, hfz76_4⟩ := bR5_ BK513.out
             go_wp2_with (first | ((with_reducible refine gate_callee (f := 19) rfl ?_); refine gL_ (some 68) Tryd.func19 #[.agg #[.int .i64 t508, .int .i64 t509, .int .i64 t510, .int .i64 t511, .int .i64 t512], .int .i64 800] ?_; (with_reducible refine (impl_StepOk.calls k2 t508 t509 t510 t511 t512 800 t534 _ A62.out).mono ?_); rintro e w77 ⟨rfl, hb⟩; refine ⟨_, rfl, ?_⟩; have n0 := aM_ (bR_ HO_4.out hb); have n1 := aM_ (bR_ HO_526001.out hb); have n2 := aM_ (nB_ BK513.out hb); have n3 := aM_ (nB_ BK525.out hb); have n4 := aM_ (sT_ HB.out hb); clear HO_4; clear HO_526001; clear BK513; clear BK525; clear HB; have HO_4 := n0; have HO_526001 := n1; have BK513 := n2; have BK525 := n3; have HB := n4; clear n0 n1 n2 n3 n4; obtain ⟨hcz78_0, hcz78_1, hcz78_2, hfz78_0, hfz78_1, hfz78_2⟩ := bR3_ BK525.out) | (go_at_call 20; (with_reducible refine (impl_ChanOk.calls t520 _ _ t521 t524 t535 _ ?side1 ?side2 A64.out).mono ?_); (case side1 => exact cS_ (Kd.R_reads' HO_526001.out).2.2); (case side2 => exact (Kd.R_reads' HO_526001.out).2.1); rintro e w79 ⟨rfl, hb⟩; have n0 := aM_ (bR_ HO_4.out hb); have n1 := aM_ (bR_ HO_526001.out hb); have n2 := aM_ (nB_ BK513.out hb); have n3 := aM_ (nB_ BK525.out hb); have n4 := aM_ (sT_ HB.out hb); clear HO_4; clear HO_526001; clear BK513; clear BK525; clear HB; have HO_4 := n0; have HO_526001 := n1; have BK513 := n2; have BK525 := n3; have HB := n4; clear n0 n1 n2 n3 n4) | (go_at_call 21; (with_reducible refine (impl_CodeOk.calls k2 _ _ t514 true _ ?side1 ?side2 A73.out).mono ?_); (case side1 => exact cS_ (Kd.R_reads' HO_4.out).2.2); (case side2 => exact (Kd.R_reads' HO_4.out).2.1); rintro e w80 ⟨rfl, hb⟩; have n0 := aM_ (bR_ HO_4.out hb); have n1 := aM_ (bR_ HO_526001.out hb); have n2 := aM_ (nB_ BK513.out hb); have n3 := aM_ (nB_ BK525.out hb); have n4 := aM_ (sT_ HB.out hb); clear HO_4; clear HO_526001; clear BK513; clear BK525; clear HB; have HO_4 := n0; have HO_526001 := n1; have BK513 := n2; have BK525 := n3; have HB := n4; clear n0 n1 n2 n3 n4))
             go_ret
             exact fI_ HB.out
            ·replace c74 := Bool.eq_false_iff.mpr c74
             subst c74
             have H1 : (if t527.toList = ([] : List UInt8) then ((impl_CodeOk.f k2 t514).bind fun t537 => (some (!t537))) else (some false)) = some r := by rw [if_neg (show ¬ (false = true) by decide)] at H; exact H
             clear H
             have H := H1
             clear H1
             by_cases c81 : t527.toList = ([] : List UInt8)
             ·rw [if_pos c81] at H
              have c81b0 : (t527.toList == ([] : List UInt8)) = true := beq_iff_eq.mpr c81
              have c81e : t527.toList.isEmpty = true := List.isEmpty_iff.mpr c81
              have c81f : ¬ ((!t527.toList.isEmpty) = true) := by rw [c81e]; decide
              have c81g : ¬ (t527.toList.isEmpty = false) := by rw [c81e]; decide
              have c81b1 : (t527.toList != ([] : List UInt8)) = false := bne_eq_false_iff_eq.mpr c81
              clear c81
              replace H := Option.bind_eq_some_iff.mp H
              obtain ⟨t537, A820, H⟩ := H
              replace H : (some (!t537)) = some r := H
              have A82 := aM_ A820
              clear A820
              try have hq_ : t537 = false := Option.some.inj (A82.out.symm.trans A73.out)
              obtain rfl := Option.some.inj H
              have hnb83 := NB513_525.out
              have hnc83 := NB525_513.out
              obtain ⟨hcz84_0, hcz84_1, hcz84_2, hcz84_3, hcz84_4, hfz84_0, hfz84_1, hfz84_2, hfz84_3, hfz84_4⟩ := bR5_ BK513.out
              go_wp2_with (first | ((with_reducible refine gate_callee (f := 19) rfl ?_); refine gL_ (some 68) Tryd.func19 #[.agg #[.int .i64 t508, .int .i64 t509, .int .i64 t510, .int .i64 t511, .int .i64 t512], .int .i64 800] ?_; (with_reducible refine (impl_StepOk.calls k2 t508 t509 t510 t511 t512 800 t534 _ A62.out).mono ?_); rintro e w85 ⟨rfl, hb⟩; refine ⟨_, rfl, ?_⟩; have n0 := aM_ (bR_ HO_4.out hb); have n1 := aM_ (bR_ HO_526001.out hb); have n2 := aM_ (nB_ BK513.out hb); have n3 := aM_ (nB_ BK525.out hb); have n4 := aM_ (sT_ HB.out hb); clear HO_4; clear HO_526001; clear BK513; clear BK525; clear HB; have HO_4 := n0; have HO_526001 := n1; have BK513 := n2; have BK525 := n3; have HB := n4; clear n0 n1 n2 n3 n4; obtain ⟨hcz86_0, hcz86_1, hcz86_2, hfz86_0, hfz86_1, hfz86_2⟩ := bR3_ BK525.out) | (go_at_call 20; (with_reducible refine (impl_ChanOk.calls t520 _ _ t521 t524 t535 _ ?side1 ?side2 A64.out).mono ?_); (case side1 => exact cS_ (Kd.R_reads' HO_526001.out).2.2); (case side2 => exact (Kd.R_reads' HO_526001.out).2.1); rintro e w87 ⟨rfl, hb⟩; have n0 := aM_ (bR_ HO_4.out hb); have n1 := aM_ (bR_ HO_526001.out hb); have n2 := aM_ (nB_ BK513.out hb); have n3 := aM_ (nB_ BK525.out hb); have n4 := aM_ (sT_ HB.out hb); clear HO_4; clear HO_526001; clear BK513; clear BK525; clear HB; have HO_4 := n0; have HO_526001 := n1; have BK513 := n2; have BK525 := n3; have HB := n4; clear n0 n1 n2 n3 n4) | (go_at_call 21; (with_reducible refine (impl_CodeOk.calls k2 _ _ t514 false _ ?side1 ?side2 A73.out).mono ?_); (case side1 => exact cS_ (Kd.R_reads' HO_4.out).2.2); (case side2 => exact (Kd.R_reads' HO_4.out).2.1); rintro e w88 ⟨rfl, hb⟩; have n0 := aM_ (bR_ HO_4.out hb); have n1 := aM_ (bR_ HO_526001.out hb); have n2 := aM_ (nB_ BK513.out hb); have n3 := aM_ (nB_ BK525.out hb); have n4 := aM_ (sT_ HB.out hb); clear HO_4; clear HO_526001; clear BK513; clear BK525; clear HB; have HO_4 := n0; have HO_526001 := n1; have BK513 := n2; have BK525 := n3; have HB := n4; clear n0 n1 n2 n3 n4) | (go_at_call 21; (with_reducible refine (impl_CodeOk.calls k2 _ _ t514 t537 _ ?side1 ?side2 A82.out).mono ?_); (case side1 => exact cS_ (Kd.R_reads' HO_4.out).2.2); (case side2 => exact (Kd.R_reads' HO_4.out).2.1); rintro e w89 ⟨rfl, hb⟩; have n0 := aM_ (bR_ HO_4.out hb); have n1 := aM_ (bR_ HO_526001.out hb); have n2 := aM_ (nB_ BK513.out hb); have n3 := aM_ (nB_ BK525.out hb); have n4 := aM_ (sT_ HB.out hb); clear HO_4; clear HO_526001; clear BK513; clear BK525; clear HB; have HO_4 := n0; have HO_526001 := n1; have BK513 := n2; have BK525 := n3; have HB := n4; clear n0 n1 n2 n3 n4))
              go_ret
              exact fI_ HB.out
             ·rw [if_neg c81] at H
              have c81b0 : (t527.toList == ([] : List UInt8)) = false := beq_eq_false_iff_ne.mpr c81
              have c81e : t527.toList.isEmpty = false := (by rw [← Bool.not_eq_true, List.isEmpty_iff]; exact c81)
              have c81f : ¬ ((!t527.toList.isEmpty) = false) := by rw [c81e]; decide
              have c81g : ¬ (t527.toList.isEmpty = true) := by rw [c81e]; decide
              have c81b1 : (t527.toList != ([] : List UInt8)) = true := bne_iff_ne.mpr c81
              obtain rfl := Option.some.inj H
              have hnb90 := NB513_525.out
              have hnc90 := NB525_513.out
              obtain ⟨hcz91_0, hcz91_1, hcz91_2, hcz91_3, hcz91_4, hfz91_0, hfz91_1, hfz91_2, hfz91_3, hfz91_4⟩ := bR5_ BK513.out
              go_wp2_with (first | ((with_reducible refine gate_callee (f := 19) rfl ?_); refine gL_ (some 68) Tryd.func19 #[.agg #[.int .i64 t508, .int .i64 t509, .int .i64 t510, .int .i64 t511, .int .i64 t512], .int .i64 800] ?_; (with_reducible refine (impl_StepOk.calls k2 t508 t509 t510 t511 t512 800 t534 _ A62.out).mono ?_); rintro e w92 ⟨rfl, hb⟩; refine ⟨_, rfl, ?_⟩; have n0 := aM_ (bR_ HO_4.out hb); have n1 := aM_ (bR_ HO_526001.out hb); have n2 := aM_ (nB_ BK513.out hb); have n3 := aM_ (nB_ BK525.out hb); have n4 := aM_ (sT_ HB.out hb); clear HO_4; clear HO_526001; clear BK513; clear BK525; clear HB; have HO_4 := n0; have HO_526001 := n1; have BK513 := n2; have BK525 := n3; have HB := n4; clear n0 n1 n2 n3 n4; obtain ⟨hcz93_0, hcz93_1, hcz93_2, hfz93_0, hfz93_1, hfz93_2⟩ := bR3_ BK525.out) | (go_at_call 20; (with_reducible refine (impl_ChanOk.calls t520 _ _ t521 t524 t535 _ ?side1 ?side2 A64.out).mono ?_); (case side1 => exact cS_ (Kd.R_reads' HO_526001.out).2.2); (case side2 => exact (Kd.R_reads' HO_526001.out).2.1); rintro e w94 ⟨rfl, hb⟩; have n0 := aM_ (bR_ HO_4.out hb); have n1 := aM_ (bR_ HO_526001.out hb); have n2 := aM_ (nB_ BK513.out hb); have n3 := aM_ (nB_ BK525.out hb); have n4 := aM_ (sT_ HB.out hb); clear HO_4; clear HO_526001; clear BK513; clear BK525; clear HB; have HO_4 := n0; have HO_526001 := n1; have BK513 := n2; have BK525 := n3; have HB := n4; clear n0 n1 n2 n3 n4) | (go_at_call 21; (with_reducible refine (impl_CodeOk.calls k2 _ _ t514 false _ ?side1 ?side2 A73.out).mono ?_); (case side1 => exact cS_ (Kd.R_reads' HO_4.out).2.2); (case side2 => exact (Kd.R_reads' HO_4.out).2.1); rintro e w95 ⟨rfl, hb⟩; have n0 := aM_ (bR_ HO_4.out hb); have n1 := aM_ (bR_ HO_526001.out hb); have n2 := aM_ (nB_ BK513.out hb); have n3 := aM_ (nB_ BK525.out hb); have n4 := aM_ (sT_ HB.out hb); clear HO_4; clear HO_526001; clear BK513; clear BK525; clear HB; have HO_4 := n0; have HO_526001 := n1; have BK513 := n2; have BK525 := n3; have HB := n4; clear n0 n1 n2 n3 n4))
              go_ret
              exact fI_ HB.out
           ·rw [if_neg c72] at H
            have c72b0 : (x11_2 == (t514.length : Int)) = false := beq_eq_false_iff_ne.mpr c72
            have c72b1 : (x11_2 != (t514.length : Int)) = true := bne_iff_ne.mpr c72
            by_cases c96 : t527.toList = ([] : List UInt8)
            ·rw [if_pos c96] at H
             have c96b0 : (t527.toList == ([] : List UInt8)) = true := beq_iff_eq.mpr c96
             have c96e : t527.toList.isEmpty = true := List.isEmpty_iff.mpr c96
             have c96f : ¬ ((!t527.toList.isEmpty) = true) := by rw [c96e]; decide
             have c96g : ¬ (t527.toList.isEmpty = false) := by rw [c96e]; decide
             have c96b1 : (t527.toList != ([] : List UInt8)) = false := bne_eq_false_iff_eq.mpr c96
             clear c96
             replace H := Option.bind_eq_some_iff.mp H
             obtain ⟨t538, A970, H⟩ := H
             replace H : (some (!t538)) = some r := H
             have A97 := aM_ A970
             clear A970
             try have hq_ : t538 = false := Option.some.inj (A97.out.symm.trans A73.out)
             obtain rfl := Option.some.inj H
             have hnb98 := NB513_525.out
             have hnc98 := NB525_513.out
             obtain ⟨hcz99_0, hcz99_1, hcz99_2, hcz99_3, hcz99_4, hfz99_0, hfz99_1, hfz99_2, hfz99_3, hfz99_4⟩ := bR5_ BK513.out
             go_wp2_with (first | ((with_reducible refine gate_callee (f := 19) rfl ?_); refine gL_ (some 68) Tryd.func19 #[.agg #[.int .i64 t508, .int .i64 t509, .int .i64 t510, .int .i64 t511, .int .i64 t512], .int .i64 800] ?_; (with_reducible refine (impl_StepOk.calls k2 t508 t509 t510 t511 t512 800 t534 _ A62.out).mono ?_); rintro e w100 ⟨rfl, hb⟩; refine ⟨_, rfl, ?_⟩; have n0 := aM_ (bR_ HO_4.out hb); have n1 := aM_ (bR_ HO_526001.out hb); have n2 := aM_ (nB_ BK513.out hb); have n3 := aM_ (nB_ BK525.out hb); have n4 := aM_ (sT_ HB.out hb); clear HO_4; clear HO_526001; clear BK513; clear BK525; clear HB; have HO_4 := n0; have HO_526001 := n1; have BK513 := n2; have BK525 := n3; have HB := n4; clear n0 n1 n2 n3 n4; obtain ⟨hcz101_0, hcz101_1, hcz101_2, hfz101_0, hfz101_1, hfz101_2⟩ := bR3_ BK525.out) | (go_at_call 20; (with_reducible refine (impl_ChanOk.calls t520 _ _ t521 t524 t535 _ ?side1 ?side2 A64.out).mono ?_); (case side1 => exact cS_ (Kd.R_reads' HO_526001.out).2.2); (case side2 => exact (Kd.R_reads' HO_526001.out).2.1); rintro e w102 ⟨rfl, hb⟩; have n0 := aM_ (bR_ HO_4.out hb); have n1 := aM_ (bR_ HO_526001.out hb); have n2 := aM_ (nB_ BK513.out hb); have n3 := aM_ (nB_ BK525.out hb); have n4 := aM_ (sT_ HB.out hb); clear HO_4; clear HO_526001; clear BK513; clear BK525; clear HB; have HO_4 := n0; have HO_526001 := n1; have BK513 := n2; have BK525 := n3; have HB := n4; clear n0 n1 n2 n3 n4) | (go_at_call 21; (with_reducible refine (impl_CodeOk.calls k2 _ _ t514 t538 _ ?side1 ?side2 A97.out).mono ?_); (case side1 => exact cS_ (Kd.R_reads' HO_4.out).2.2); (case side2 => exact (Kd.R_reads' HO_4.out).2.1); rintro e w103 ⟨rfl, hb⟩; have n0 := aM_ (bR_ HO_4.out hb); have n1 := aM_ (bR_ HO_526001.out hb); have n2 := aM_ (nB_ BK513.out hb); have n3 := aM_ (nB_ BK525.out hb); have n4 := aM_ (sT_ HB.out hb); clear HO_4; clear HO_526001; clear BK513; clear BK525; clear HB; have HO_4 := n0; have HO_526001 := n1; have BK513 := n2; have BK525 := n3; have HB := n4; clear n0 n1 n2 n3 n4))
             go_ret
             exact fI_ HB.out
            ·rw [if_neg c96] at H
             have c96b0 : (t527.toList == ([] : List UInt8)) = false := beq_eq_false_iff_ne.mpr c96
             have c96e : t527.toList.isEmpty = false := (by rw [← Bool.not_eq_true, List.isEmpty_iff]; exact c96)
             have c96f : ¬ ((!t527.toList.isEmpty) = false) := by rw [c96e]; decide
             have c96g : ¬ (t527.toList.isEmpty = true) := by rw [c96e]; decide
             have c96b1 : (t527.toList != ([] : List UInt8)) = true := bne_iff_ne.mpr c96
             obtain rfl := Option.some.inj H
             have hnb104 := NB513_525.out
             have hnc104 := NB525_513.out
             obtain ⟨hcz105_0, hcz105_1, hcz105_2, hcz105_3, hcz105_4, hfz105_0, hfz105_1, hfz105_2, hfz105_3, hfz105_4⟩ := bR5_ BK513.out
             go_wp2_with (first | ((with_reducible refine gate_callee (f := 19) rfl ?_); refine gL_ (some 68) Tryd.func19 #[.agg #[.int .i64 t508, .int .i64 t509, .int .i64 t510, .int .i64 t511, .int .i64 t512], .int .i64 800] ?_; (with_reducible refine (impl_StepOk.calls k2 t508 t509 t510 t511 t512 800 t534 _ A62.out).mono ?_); rintro e w106 ⟨rfl, hb⟩; refine ⟨_, rfl, ?_⟩; have n0 := aM_ (bR_ HO_4.out hb); have n1 := aM_ (bR_ HO_526001.out hb); have n2 := aM_ (nB_ BK513.out hb); have n3 := aM_ (nB_ BK525.out hb); have n4 := aM_ (sT_ HB.out hb); clear HO_4; clear HO_526001; clear BK513; clear BK525; clear HB; have HO_4 := n0; have HO_526001 := n1; have BK513 := n2; have BK525 := n3; have HB := n4; clear n0 n1 n2 n3 n4; obtain ⟨hcz107_0, hcz107_1, hcz107_2, hfz107_0, hfz107_1, hfz107_2⟩ := bR3_ BK525.out) | (go_at_call 20; (with_reducible refine (impl_ChanOk.calls t520 _ _ t521 t524 t535 _ ?side1 ?side2 A64.out).mono ?_); (case side1 => exact cS_ (Kd.R_reads' HO_526001.out).2.2); (case side2 => exact (Kd.R_reads' HO_526001.out).2.1); rintro e w108 ⟨rfl, hb⟩; have n0 := aM_ (bR_ HO_4.out hb); have n1 := aM_ (bR_ HO_526001.out hb); have n2 := aM_ (nB_ BK513.out hb); have n3 := aM_ (nB_ BK525.out hb); have n4 := aM_ (sT_ HB.out hb); clear HO_4; clear HO_526001; clear BK513; clear BK525; clear HB; have HO_4 := n0; have HO_526001 := n1; have BK513 := n2; have BK525 := n3; have HB := n4; clear n0 n1 n2 n3 n4))
             go_ret
             exact fI_ HB.out
         ·rw [if_neg c65] at H
          have c65b0 : ((t529.toList != ([] : List UInt8)) == t535) = false := by simpa using c65
          have c65e : ((!t529.toList.isEmpty) == t535) = false := by rw [← show (t529.toList != ([] : List UInt8)) = (!t529.toList.isEmpty) from (by cases t529.toList <;> rfl)]; exact c65b0
          have c65f : ¬ (((!t529.toList.isEmpty) == t535) = true) := by rw [c65e]; decide
          (try (have c65b1 : decide ((t529.toList != ([] : List UInt8)) = t535) = false := by simpa using c65))
          (try (have c65b2 : ((t529.toList != ([] : List UInt8)) == t535) = false := by simpa using c65))
          (try (have c65b3 : ¬ ((t529.toList != ([] : List UInt8)) = t535) := by simpa using c65))
          clear c65
          obtain rfl := Option.some.inj H
          have hnb109 := NB513_525.out
          have hnc109 := NB525_513.out
          obtain ⟨hcz110_0, hcz110_1, hcz110_2, hcz110_3, hcz110_4, hfz110_0, hfz110_1, hfz110_2, hfz110_3, hfz110_4⟩ := bR5_ BK513.out
          go_wp2_with (first | ((with_reducible refine gate_callee (f := 19) rfl ?_); refine gL_ (some 68) Tryd.func19 #[.agg #[.int .i64 t508, .int .i64 t509, .int .i64 t510, .int .i64 t511, .int .i64 t512], .int .i64 800] ?_; (with_reducible refine (impl_StepOk.calls k2 t508 t509 t510 t511 t512 800 t534 _ A62.out).mono ?_); rintro e w111 ⟨rfl, hb⟩; refine ⟨_, rfl, ?_⟩; have n0 := aM_ (bR_ HO_4.out hb); have n1 := aM_ (bR_ HO_526001.out hb); have n2 := aM_ (nB_ BK513.out hb); have n3 := aM_ (nB_ BK525.out hb); have n4 := aM_ (sT_ HB.out hb); clear HO_4; clear HO_526001; clear BK513; clear BK525; clear HB; have HO_4 := n0; have HO_526001 := n1; have BK513 := n2; have BK525 := n3; have HB := n4; clear n0 n1 n2 n3 n4; obtain ⟨hcz112_0, hcz112_1, hcz112_2, hfz112_0, hfz112_1, hfz112_2⟩ := bR3_ BK525.out) | (go_at_call 20; (with_reducible refine (impl_ChanOk.calls t520 _ _ t521 t524 t535 _ ?side1 ?side2 A64.out).mono ?_); (case side1 => exact cS_ (Kd.R_reads' HO_526001.out).2.2); (case side2 => exact (Kd.R_reads' HO_526001.out).2.1); rintro e w113 ⟨rfl, hb⟩; have n0 := aM_ (bR_ HO_4.out hb); have n1 := aM_ (bR_ HO_526001.out hb); have n2 := aM_ (nB_ BK513.out hb); have n3 := aM_ (nB_ BK525.out hb); have n4 := aM_ (sT_ HB.out hb); clear HO_4; clear HO_526001; clear BK513; clear BK525; clear HB; have HO_4 := n0; have HO_526001 := n1; have BK513 := n2; have BK525 := n3; have HB := n4; clear n0 n1 n2 n3 n4))
          go_ret
          exact fI_ HB.out
        ·rw [if_neg c63] at H
         have c63b0 : ((t526.toList != ([] : List UInt8)) == t534) = false := by simpa using c63
         have c63e : ((!t526.toList.isEmpty) == t534) = false := by rw [← show (t526.toList != ([] : List UInt8)) = (!t526.toList.isEmpty) from (by cases t526.toList <;> rfl)]; exact c63b0
         have c63f : ¬ (((!t526.toList.isEmpty) == t534) = true) := by rw [c63e]; decide
         (try (have c63b1 : decide ((t526.toList != ([] : List UInt8)) = t534) = false := by simpa using c63))
         (try (have c63b2 : ((t526.toList != ([] : List UInt8)) == t534) = false := by simpa using c63))
         (try (have c63b3 : ¬ ((t526.toList != ([] : List UInt8)) = t534) := by simpa using c63))
         clear c63
         obtain rfl := Option.some.inj H
         have hnb114 := NB513_525.out
         have hnc114 := NB525_513.out
         obtain ⟨hcz115_0, hcz115_1, hcz115_2, hcz115_3, hcz115_4, hfz115_0, hfz115_1, hfz115_2, hfz115_3, hfz115_4⟩ := bR5_ BK513.out
         go_wp2_with (first | ((with_reducible refine gate_callee (f := 19) rfl ?_); refine gL_ (some 68) Tryd.func19 #[.agg #[.int .i64 t508, .int .i64 t509, .int .i64 t510, .int .i64 t511, .int .i64 t512], .int .i64 800] ?_; (with_reducible refine (impl_StepOk.calls k2 t508 t509 t510 t511 t512 800 t534 _ A62.out).mono ?_); rintro e w116 ⟨rfl, hb⟩; refine ⟨_, rfl, ?_⟩; have n0 := aM_ (bR_ HO_4.out hb); have n1 := aM_ (bR_ HO_526001.out hb); have n2 := aM_ (nB_ BK513.out hb); have n3 := aM_ (nB_ BK525.out hb); have n4 := aM_ (sT_ HB.out hb); clear HO_4; clear HO_526001; clear BK513; clear BK525; clear HB; have HO_4 := n0; have HO_526001 := n1; have BK513 := n2; have BK525 := n3; have HB := n4; clear n0 n1 n2 n3 n4))
         go_ret
         exact fI_ HB.out
end Go.Proofs.YtdbobicbbfmepaaDoor.PFnTexts
namespace Go.Proofs.YtdbobicbbfmepaaDoor.Lp
open Go.RowKit Go.Proofs.YtdbobicbbfmepaaDoorW.PrintWords
set_option linter.unusedVariables false
set_option linter.unusedSimpArgs false
theorem wrapS {j n : Nat} (h : j < n) (hn : n ≤ 9223372036854775807) : wrap64 ((j : Int) + 1) = ((j + 1 : Nat) : Int) := by
  unfold wrap64; omega
theorem wrap_in {n : Int} (h0 : -9223372036854775808 ≤ n) (h1 : n ≤ 9223372036854775807) : wrap64 n = n := by
  unfold wrap64; omega
theorem rd_get {xs : List Int} {j : Nat} (h : j < xs.length) : rd xs (j : Int) = xs[j] := by simp [rd, List.getD_eq_getElem?_getD, h]
theorem Ev.one {α : Type} {g : Nat → Option α} {r : α} (h : ∀ k, g (k + 1) = some r) : Ev g r := ⟨1, fun k hk => by
  obtain ⟨m, rfl⟩ : ∃ m, k = m + 1 := ⟨k - 1, by omega⟩
  exact h m⟩
theorem Ev.all {α : Type} {g : Nat → Option α} {r : α} (h : ∀ k, g k = some r) : Ev g r := ⟨0, fun k _ => h k⟩
def allFrom {α : Type} (p : α → Bool) (xs : List α) (j : Nat) : Bool := (xs.drop j).all p
theorem allFrom_step {α : Type} {p : α → Bool} {xs : List α} {j : Nat} (h : j < xs.length) : allFrom p xs j = (p xs[j] && allFrom p xs (j + 1)) := by
  unfold allFrom
  rw [List.drop_eq_getElem_cons h, List.all_cons]
theorem allFrom_end {α : Type} {p : α → Bool} (xs : List α) : allFrom p xs xs.length = true := by simp [allFrom]
theorem allFrom_zero {α : Type} (p : α → Bool) (xs : List α) : allFrom p xs 0 = xs.all p := rfl
theorem Ev.val {α : Type} {g : Nat → Option α} {r r' : α} (h : r = r') (k : Ev g r) : Ev g r' := h ▸ k
theorem Ev.ite_pos {α : Type} {c : Prop} [Decidable c] {g f : Nat → Option α} {r : α} (h : c) (k : Ev g r) : Ev (fun n => if c then g n else f n) r := by simp only [if_pos h]; exact k
theorem Ev.ite_neg {α : Type} {c : Prop} [Decidable c] {g f : Nat → Option α} {r : α} (h : ¬ c) (k : Ev f r) : Ev (fun n => if c then g n else f n) r := by simp only [if_neg h]; exact k
theorem all_loop {α : Type} {L : Nat → Nat → Option Bool} (xs : List α) (p : α → Bool) {b : Bool} (hend : Ev (L xs.length) b) (hyes : ∀ j (h : j < xs.length), p xs[j] = true → ∀ r, Ev (L (j + 1)) r → Ev (L j) r) (hno : ∀ j (h : j < xs.length), p xs[j] = false → Ev (L j) false) : Ev (L 0) (xs.all p && b) := by
  have key : ∀ d j, j + d = xs.length → Ev (L j) (allFrom p xs j && b) := by
    intro d
    induction d with
    | zero =>
      intro j hj
      obtain rfl : j = xs.length := by omega
      rw [allFrom_end, Bool.true_and]
      exact hend
    | succ d ih =>
      intro j hj
      have h : j < xs.length := by omega
      rw [allFrom_step h]
      cases e : p xs[j] with
      | true => rw [Bool.true_and]; exact hyes j h e _ (ih (j + 1) (by omega))
      | false => rw [Bool.false_and, Bool.false_and]; exact hno j h e
  have := key xs.length 0 (by omega)
  rwa [allFrom_zero] at this
end Go.Proofs.YtdbobicbbfmepaaDoor.Lp
