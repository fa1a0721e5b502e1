/- A part of the proof that the law FnRight holds for every input: the words, functions and walks that its row needs, without a condition of their own. -/
import Derived.Test.YtpefeaiglkkkoabZFnRighta2
import Derived.Test.YtpefeaiglkkkoabZFnRighta3
import Derived.Test.YtpefeaiglkkkoabZFnRighta6
import Derived.Test.YtpefeaiglkkkoabZFnRighta7
import Derived.Test.YtpefeaiglkkkoabZFnRighta9
import Derived.Test.YtpefeaiglkkkoabZFnRighta10
import Derived.Test.YtpefeaiglkkkoabZFnRighta12
namespace Go.Proofs.Ytpefeaiglkkkoab.PFnRight
open Go.RowKit Go.Proofs.YtpefeaiglkkkoabW.PrintWords Go.Proofs.YtpefeaiglkkkoabW.PrintLast Go.Proofs.YtpefeaiglkkkoabW.PrintMore
attribute [local go_sem] max2_int min2_int max_two min_two max_three min_three max_four min_four   -- for this text's walks alone
set_option linter.unusedVariables false
set_option linter.unusedSimpArgs false
mutual
def laws_FnRight.j0 : Nat → Int → Int → Bool → List (S66) → Int → Bool → Bool → Int → Int → Int → Int → Int → Option (Bool)
  | 0, _, _, _, _, _, _, _, _, _, _, _, _ => none
  | k + 1, x4, x5, x6, x7, x8, x9, x53, x443000, x443001, x443002, x443003, x443004 => if x53 = true then (some false) else (if x6 = true then ((impl_InsOk.f k x443000 x443001 x443002 x443003 x443004 (wrap64 (x4 + 1)) x5).bind fun t460 => (if t460 = true then (if x5 < 3 then ((impl_InsOk.f k x443000 x443001 x443002 x443003 x443004 x4 (wrap64 (x5 + 1))).bind fun t461 => (laws_FnRight.j1 k x7 x8 x9 (!t461))) else (laws_FnRight.j1 k x7 x8 x9 false)) else (laws_FnRight.j1 k x7 x8 x9 true))) else (laws_FnRight.j1 k x7 x8 x9 false))
def laws_FnRight.j1 : Nat → List (S66) → Int → Bool → Bool → Option (Bool)
  | 0, _, _, _, _ => none
  | k + 1, x7, x8, x9, x74 => if x74 = true then (some false) else (laws_FnRight.l0 k x7 x8 x9 0)
def laws_FnRight.l0 : Nat → List (S66) → Int → Bool → Int → Option (Bool)
  | 0, _, _, _, _ => none
  | k + 1, x7, x8, x9, x11 => if x11 < (x7.length : Int) then (laws_FnRight.j3 k x7 x8 x9 x11 x9) else (laws_FnRight.j3 k x7 x8 x9 x11 false)
def laws_FnRight.j3 : Nat → List (S66) → Int → Bool → Int → Bool → Option (Bool)
  | 0, _, _, _, _, _ => none
  | k + 1, x7, x8, x9, x11, x81 => if x81 = true then (if 0 ≤ x11 then (if x11 < (x7.length : Int) then ((impl_InsOk.f k ((rd_T66 x7 x11).f0) ((rd_T66 x7 x11).f1) ((rd_T66 x7 x11).f2) ((rd_T66 x7 x11).f3) ((rd_T66 x7 x11).f4) (x7.length : Int) x8).bind fun t463 => (if t463 = true then (laws_FnRight.l0 k x7 x8 x9 (wrap64 (x11 + 1))) else (some false))) else (none)) else (none)) else (some true)
end
def laws_FnRight.f (k : Nat) (l0 : List Int) : Option (Bool) := (laws_big.f l0).bind fun t434 => (if t434 = true then (some true) else ((spec_DrawInsOk.f k l0).bind fun bt435 => ((impl_InsOk.f k bt435.1 bt435.2.1 bt435.2.2.1 bt435.2.2.2.1 bt435.2.2.2.2.1 bt435.2.2.2.2.2.1 bt435.2.2.2.2.2.2).bind fun t443 => ((spec_DrawBodyOk.f k l0).bind fun bt444 => ((impl_BodyOk.f k bt444.1 bt444.2).bind fun t448 => ((spec_DrawProgOk.f k l0).bind fun bt449 => ((spec_InsOk.f k bt435.1 bt435.2.1 bt435.2.2.1 bt435.2.2.2.1 bt435.2.2.2.2.1 bt435.2.2.2.2.2.1 bt435.2.2.2.2.2.2).bind fun t456 => (if (t443 != t456) = true then (laws_FnRight.j0 k bt435.2.2.2.2.2.1 bt435.2.2.2.2.2.2 t443 bt444.1 bt444.2 t448 true bt435.1 bt435.2.1 bt435.2.2.1 bt435.2.2.2.1 bt435.2.2.2.2.1) else ((spec_BodyOk.f k bt444.1 bt444.2).bind fun t457 => (if (t448 != t457) = true then (laws_FnRight.j0 k bt435.2.2.2.2.2.1 bt435.2.2.2.2.2.2 t443 bt444.1 bt444.2 t448 true bt435.1 bt435.2.1 bt435.2.2.1 bt435.2.2.2.1 bt435.2.2.2.2.1) else ((impl_ProgOk.f k bt449.1 bt449.2).bind fun t458 => ((spec_ProgOk.f k bt449.1 bt449.2).bind fun t459 => (laws_FnRight.j0 k bt435.2.2.2.2.2.1 bt435.2.2.2.2.2.2 t443 bt444.1 bt444.2 t448 (t458 != t459) bt435.1 bt435.2.1 bt435.2.2.1 bt435.2.2.2.1 bt435.2.2.2.2.1)))))))))))))
def laws_FnRight.T8 : Bool × List (List Nat × List Nat) := (true, [([], []), ([], []), ([], []), ([], []), ([1, 2, 3], [1, 2, 3]), ([0, 4], [0, 4]), ([5, 4], [5]), ([6], [6]), ([6], [6]), ([6], [6]), ([8, 9, 6, 6], [6, 8, 9]), ([7, 10, 6], [6, 7, 10]), ([6, 11], [6, 11]), ([12, 10], [12]), ([13], [13]), ([14, 13, 13], [13, 14]), ([13], [13]), ([16, 15, 13], [13, 16]), ([15, 17, 13], [13, 15, 17]), ([13, 18], [13, 18])])
def laws_FnRight.B8 : List Nat := [0, 0, 0, 0, 14, 31, 63, 127, 127, 127, 895, 2047, 4095, 8191, 16383, 32767, 16383, 131071, 262143, 524287]
theorem laws_FnRight.tab8 : rtab .any (opsOf Try.f7 8) = laws_FnRight.T8 := by kernel_rfl
theorem laws_FnRight.bits8 : waitsOk laws_FnRight.T8.2 laws_FnRight.B8 = true := by kernel_rfl
set_option maxHeartbeats 8000000 in
set_option maxRecDepth 100000 in
theorem laws_FnRight.calls (k : Nat) (A0 : Option Addr) (c0 : Nat) (l0 : List Int) (r : Bool) (w : World) (hr0 : Kd.C (Kd.int .u8) w A0 l0.length l0) (hc0 : l0.length ≤ c0) (h : laws_FnRight.f k l0 = some r) :
  Calls Try.prog 7 #[.slice A0 l0.length c0] w fun e w' => e = .returned (.bool r) ∧ Below w.heap.size w w' := by
 have hu66 := Try.underlying66
 have hu53 := Try.underlying53
 have HR0 := aM_ hr0
 have HC0 := aM_ hc0
 clear hr0 hc0
 have HB := aM_ (Below.refl w.heap.size w)
 have H : ((laws_big.f l0).bind fun t434 => (if t434 = true then (some true) else ((spec_DrawInsOk.f k l0).bind fun bt435 => ((impl_InsOk.f k bt435.1 bt435.2.1 bt435.2.2.1 bt435.2.2.2.1 bt435.2.2.2.2.1 bt435.2.2.2.2.2.1 bt435.2.2.2.2.2.2).bind fun t443 => ((spec_DrawBodyOk.f k l0).bind fun bt444 => ((impl_BodyOk.f k bt444.1 bt444.2).bind fun t448 => ((spec_DrawProgOk.f k l0).bind fun bt449 => ((spec_InsOk.f k bt435.1 bt435.2.1 bt435.2.2.1 bt435.2.2.2.1 bt435.2.2.2.2.1 bt435.2.2.2.2.2.1 bt435.2.2.2.2.2.2).bind fun t456 => (if (t443 != t456) = true then (laws_FnRight.j0 k bt435.2.2.2.2.2.1 bt435.2.2.2.2.2.2 t443 bt444.1 bt444.2 t448 true bt435.1 bt435.2.1 bt435.2.2.1 bt435.2.2.2.1 bt435.2.2.2.2.1) else ((spec_BodyOk.f k bt444.1 bt444.2).bind fun t457 => (if (t448 != t457) = true then (laws_FnRight.j0 k bt435.2.2.2.2.2.1 bt435.2.2.2.2.2.2 t443 bt444.1 bt444.2 t448 true bt435.1 bt435.2.1 bt435.2.2.1 bt435.2.2.2.1 bt435.2.2.2.2.1) else ((impl_ProgOk.f k bt449.1 bt449.2).bind fun t458 => ((spec_ProgOk.f k bt449.1 bt449.2).bind fun t459 => (laws_FnRight.j0 k bt435.2.2.2.2.2.1 bt435.2.2.2.2.2.2 t443 bt444.1 bt444.2 t448 (t458 != t459) bt435.1 bt435.2.1 bt435.2.2.1 bt435.2.2.2.1 bt435.2.2.2.2.1)))))))))))))) = some r := h
 clear h
 replace H := Option.bind_eq_some_iff.mp H
 obtain ⟨t434, A20, H⟩ := H
 replace H : (if t434 = true then (some true) else ((spec_DrawInsOk.f k l0).bind fun bt435 => ((impl_InsOk.f k bt435.1 bt435.2.1 bt435.2.2.1 bt435.2.2.2.1 bt435.2.2.2.2.1 bt435.2.2.2.2.2.1 bt435.2.2.2.2.2.2).bind fun t443 => ((spec_DrawBodyOk.f k l0).bind fun bt444 => ((impl_BodyOk.f k bt444.1 bt444.2).bind fun t448 => ((spec_DrawProgOk.f k l0).bind fun bt449 => ((spec_InsOk.f k bt435.1 bt435.2.1 bt435.2.2.1 bt435.2.2.2.1 bt435.2.2.2.2.1 bt435.2.2.2.2.2.1 bt435.2.2.2.2.2.2).bind fun t456 => (if (t443 != t456) = true then (laws_FnRight.j0 k bt435.2.2.2.2.2.1 bt435.2.2.2.2.2.2 t443 bt444.1 bt444.2 t448 true bt435.1 bt435.2.1 bt435.2.2.1 bt435.2.2.2.1 bt435.2.2.2.2.1) else ((spec_BodyOk.f k bt444.1 bt444.2).bind fun t457 => (if (t448 != t457) = true then (laws_FnRight.j0 k bt435.2.2.2.2.2.1 bt435.2.2.2.2.2.2 t443 bt444.1 bt444.2 t448 true bt435.1 bt435.2.1 bt435.2.2.1 bt435.2.2.2.1 bt435.2.2.2.2.1) else ((impl_ProgOk.f k bt449.1 bt449.2).bind fun t458 => ((spec_ProgOk.f k bt449.1 bt449.2).bind fun t459 => (laws_FnRight.j0 k bt435.2.2.2.2.2.1 bt435.2.2.2.2.2.2 t443 bt444.1 bt444.2 t448 (t458 != t459) bt435.1 bt435.2.1 bt435.2.2.1 bt435.2.2.2.1 bt435.2.2.2.2.1))))))))))))) = some r := H
 have A2 := aM_ A20
 clear A20
 by_cases c3 : t434 = true
 ·subst c3
  have H1 : (some true) = some r := by rw [if_pos rfl] at H; exact H
  clear H
  have H := H1
  clear H1
  obtain rfl := Option.some.inj H
  go_enter Try.func7, Try.ntmps7
  go_wp2_with (first | ((with_reducible refine gate_callee (f := 15) rfl ?_); refine goesL_ (some 13) rfl rfl Try.func15 (by kernel_rfl) rfl #[.slice A0 l0.length c0] rfl (by (try simp only [mT_, mC_, mN_]); first | done | rfl | (simp only [List.length_drop, List.length_take]; rfl)) ?_; (with_reducible refine (laws_big.calls _ _ l0 true _ ?side1 ?side2 A2.out).mono ?_); (case side1 => repeat (first | exact HR0.out | (with_reducible refine Kd.C_alloc ?_ _) | (with_reducible refine Kd.C_drewN ?_ _) | (with_reducible refine Kd.C_drew ?_))); (case side2 => exact HC0.out); rintro e w' ⟨rfl, ⟨nd, rfl⟩⟩; refine ⟨_, rfl, ?_⟩))
  go_ret
  exact ⟨by first | rfl | (simp [errW_none, errW_some] <;> rfl) | (simp [*, errW_none, errW_some] <;> rfl), by repeat (first | (with_reducible first | exact HB.out | apply below_alloc | apply pw_below_drewN | apply below_drew1) | exact HB.out)⟩
 ·replace c3 := Bool.eq_false_iff.mpr c3
  subst c3
  have H1 : ((spec_DrawInsOk.f k l0).bind fun bt435 => ((impl_InsOk.f k bt435.1 bt435.2.1 bt435.2.2.1 bt435.2.2.2.1 bt435.2.2.2.2.1 bt435.2.2.2.2.2.1 bt435.2.2.2.2.2.2).bind fun t443 => ((spec_DrawBodyOk.f k l0).bind fun bt444 => ((impl_BodyOk.f k bt444.1 bt444.2).bind fun t448 => ((spec_DrawProgOk.f k l0).bind fun bt449 => ((spec_InsOk.f k bt435.1 bt435.2.1 bt435.2.2.1 bt435.2.2.2.1 bt435.2.2.2.2.1 bt435.2.2.2.2.2.1 bt435.2.2.2.2.2.2).bind fun t456 => (if (t443 != t456) = true then (laws_FnRight.j0 k bt435.2.2.2.2.2.1 bt435.2.2.2.2.2.2 t443 bt444.1 bt444.2 t448 true bt435.1 bt435.2.1 bt435.2.2.1 bt435.2.2.2.1 bt435.2.2.2.2.1) else ((spec_BodyOk.f k bt444.1 bt444.2).bind fun t457 => (if (t448 != t457) = true then (laws_FnRight.j0 k bt435.2.2.2.2.2.1 bt435.2.2.2.2.2.2 t443 bt444.1 bt444.2 t448 true bt435.1 bt435.2.1 bt435.2.2.1 bt435.2.2.2.1 bt435.2.2.2.2.1) else ((impl_ProgOk.f k bt449.1 bt449.2).bind fun t458 => ((spec_ProgOk.f k bt449.1 bt449.2).bind fun t459 => (laws_FnRight.j0 k bt435.2.2.2.2.2.1 bt435.2.2.2.2.2.2 t443 bt444.1 bt444.2 t448 (t458 != t459) bt435.1 bt435.2.1 bt435.2.2.1 bt435.2.2.2.1 bt435.2.2.2.2.1)))))))))))) = some r := by rw [if_neg (show ¬ (false = true) by decide)] at H; exact H
  clear H
  have H := H1
  clear H1
  replace H := Option.bind_eq_some_iff.mp H
  obtain ⟨⟨t435, t436, t437, t438, t439, t440, t441⟩, A40, H⟩ := H
  replace H : ((impl_InsOk.f k t435 t436 t437 t438 t439 t440 t441).bind fun t443 => ((spec_DrawBodyOk.f k l0).bind fun bt444 => ((impl_BodyOk.f k bt444.1 bt444.2).bind fun t448 => ((spec_DrawProgOk.f k l0).bind fun bt449 => ((spec_InsOk.f k t435 t436 t437 t438 t439 t440 t441).bind fun t456 => (if (t443 != t456) = true then (laws_FnRight.j0 k t440 t441 t443 bt444.1 bt444.2 t448 true t435 t436 t437 t438 t439) else ((spec_BodyOk.f k bt444.1 bt444.2).bind fun t457 => (if (t448 != t457) = true then (laws_FnRight.j0 k t440 t441 t443 bt444.1 bt444.2 t448 true t435 t436 t437 t438 t439) else ((impl_ProgOk.f k bt449.1 bt449.2).bind fun t458 => ((spec_ProgOk.f k bt449.1 bt449.2).bind fun t459 => (laws_FnRight.j0 k t440 t441 t443 bt444.1 bt444.2 t448 (t458 != t459) t435 t436 t437 t438 t439))))))))))) = some r := H
  have A4 := aM_ A40
  clear A40
  replace H := Option.bind_eq_some_iff.mp H
  obtain ⟨t443, A50, H⟩ := H
  replace H : ((spec_DrawBodyOk.f k l0).bind fun bt444 => ((impl_BodyOk.f k bt444.1 bt444.2).bind fun t448 => ((spec_DrawProgOk.f k l0).bind fun bt449 => ((spec_InsOk.f k t435 t436 t437 t438 t439 t440 t441).bind fun t456 => (if (t443 != t456) = true then (laws_FnRight.j0 k t440 t441 t443 bt444.1 bt444.2 t448 true t435 t436 t437 t438 t439) else ((spec_BodyOk.f k bt444.1 bt444.2).bind fun t457 => (if (t448 != t457) = true then (laws_FnRight.j0 k t440 t441 t443 bt444.1 bt444.2 t448 true t435 t436 t437 t438 t439) else ((impl_ProgOk.f k bt449.1 bt449.2).bind fun t458 => ((spec_ProgOk.f k bt449.1 bt449.2).bind fun t459 => (laws_FnRight.j0 k t440 t441 t443 bt444.1 bt444.2 t448 (t458 != t459) t435 t436 t437 t438 t439)))))))))) = some r := H
  have A5 := aM_ A50
  clear A50
  replace H := Option.bind_eq_some_iff.mp H
  obtain ⟨⟨t444, t445⟩, A60, H⟩ := H
  replace H : ((impl_BodyOk.f k t444 t445).bind fun t448 => ((spec_DrawProgOk.f k l0).bind fun bt449 => ((spec_InsOk.f k t435 t436 t437 t438 t439 t440 t441).bind fun t456 => (if (t443 != t456) = true then (laws_FnRight.j0 k t440 t441 t443 t444 t445 t448 true t435 t436 t437 t438 t439) else ((spec_BodyOk.f k t444 t445).bind fun t457 => (if (t448 != t457) = true then (laws_FnRight.j0 k t440 t441 t443 t444 t445 t448 true t435 t436 t437 t438 t439) else ((impl_ProgOk.f k bt449.1 bt449.2).bind fun t458 => ((spec_ProgOk.f k bt449.1 bt449.2).bind fun t459 => (laws_FnRight.j0 k t440 t441 t443 t444 t445 t448 (t458 != t459) t435 t436 t437 t438 t439))))))))) = some r := H
  have A6 := aM_ A60
  clear A60
  replace H := Option.bind_eq_some_iff.mp H
  obtain ⟨t448, A70, H⟩ := H
  replace H : ((spec_DrawProgOk.f k l0).bind fun bt449 => ((spec_InsOk.f k t435 t436 t437 t438 t439 t440 t441).bind fun t456 => (if (t443 != t456) = true then (laws_FnRight.j0 k t440 t441 t443 t444 t445 t448 true t435 t436 t437 t438 t439) else ((spec_BodyOk.f k t444 t445).bind fun t457 => (if (t448 != t457) = true then (laws_FnRight.j0 k t440 t441 t443 t444 t445 t448 true t435 t436 t437 t438 t439) else ((impl_ProgOk.f k bt449.1 bt449.2).bind fun t458 => ((spec_ProgOk.f k bt449.1 bt449.2).bind fun t459 => (laws_FnRight.j0 k t440 t441 t443 t444 t445 t448 (t458 != t459) t435 t436 t437 t438 t439)))))))) = some r := H
  have A7 := aM_ A70
  clear A70
  replace H := Option.bind_eq_some_iff.mp H
  obtain ⟨⟨t449, t452⟩, A80, H⟩ := H
  replace H : ((spec_InsOk.f k t435 t436 t437 t438 t439 t440 t441).bind fun t456 => (if (t443 != t456) = true then (laws_FnRight.j0 k t440 t441 t443 t444 t445 t448 true t435 t436 t437 t438 t439) else ((spec_BodyOk.f k t444 t445).bind fun t457 => (if (t448 != t457) = true then (laws_FnRight.j0 k t440 t441 t443 t444 t445 t448 true t435 t436 t437 t438 t439) else ((impl_ProgOk.f k t449 t452).bind fun t458 => ((spec_ProgOk.f k t449 t452).bind fun t459 => (laws_FnRight.j0 k t440 t441 t443 t444 t445 t448 (t458 != t459) t435 t436 t437 t438 t439))))))) = some r := H
  have A8 := aM_ A80
  clear A80
  have HC9 := aM_ H
  clear H
  go_enter Try.func7, Try.ntmps7
  go_upto_region 8 with (first | ((with_reducible refine gate_callee (f := 15) rfl ?_); refine goesL_ (some 13) rfl rfl Try.func15 (by kernel_rfl) rfl #[.slice A0 l0.length c0] rfl (by (try simp only [mT_, mC_, mN_]); first | done | rfl | (simp only [List.length_drop, List.length_take]; rfl)) ?_; (with_reducible refine (laws_big.calls _ _ l0 false _ ?side1 ?side2 A2.out).mono ?_); (case side1 => repeat (first | exact HR0.out | (with_reducible refine Kd.C_alloc ?_ _) | (with_reducible refine Kd.C_drewN ?_ _) | (with_reducible refine Kd.C_drew ?_))); (case side2 => exact HC0.out); rintro e w' ⟨rfl, ⟨nd, rfl⟩⟩; refine ⟨_, rfl, ?_⟩) | ((with_reducible refine gate_callee (f := 43) rfl ?_); refine goesL_ (some 16) rfl rfl Try.func43 (by kernel_rfl) rfl #[.slice A0 l0.length c0] rfl (by (try simp only [mT_, mC_, mN_]); first | done | rfl | (simp only [List.length_drop, List.length_take]; rfl)) ?_; (with_reducible refine (spec_DrawInsOk.calls k _ _ l0 t435 t436 t437 t438 t439 t440 t441 _ ?side1 ?side2 A4.out).mono ?_); (case side1 => repeat (first | exact HR0.out | (with_reducible refine Kd.C_alloc ?_ _) | (with_reducible refine Kd.C_drewN ?_ _) | (with_reducible refine Kd.C_drew ?_))); (case side2 => exact HC0.out); rintro e w10 ⟨rfl, hb⟩; refine ⟨_, rfl, ?_⟩; have n0_ := aM_ (below_step (by repeat (first | (with_reducible first | exact HB.out | apply below_alloc | apply pw_below_drewN | apply below_drew1) | exact HB.out)) hb); clear HB; have HB := n0_; clear n0_) | ((with_reducible refine gate_dst (N := 3) rfl ?_); refine box_event ?hg (N := 3) ?hd (cs := #[.int .i64 0, .int .i64 0, .int .i64 0, .int .i64 0, .int .i64 0]) (t := 66) ?hr ?_; (case hd => rfl); (case hg => rfl); (case hr => first | (go_simp; done) | (go_simp; rfl)); intro gb442 hg w11 hbox hb; have n0_ := aM_ (below_step (by repeat (first | (with_reducible first | exact HB.out | apply below_alloc | apply pw_below_drewN | apply below_drew1) | exact HB.out)) hb); have n1_ := aM_ (hbox); have n2_ := aM_ ((by rw [hg]; exact (below_size (by repeat (first | (with_reducible first | exact HB.out | apply below_alloc | apply pw_below_drewN | apply below_drew1) | exact HB.out))) : w.heap.size ≤ gb442)); have n3_ := aM_ ((by rw [hg]; exact (below_size (by repeat (first | (with_reducible first | exact HB.out | apply below_alloc | apply pw_below_drewN | apply below_drew1) | exact HB.out))) : w.heap.size ≤ gb442)); clear HB; have HB := n0_; have BK442 := n1_; have GW442 := n2_; have GE442 := n3_; clear n0_ n1_ n2_ n3_; clear hb hbox hg; have hcz12_0 : w11.cell? ⟨gb442, 0, none⟩ = some (.int .i64 0) := (blk_cell BK442.out 0).trans rfl; have hcz12_1 : w11.cell? ⟨gb442, 1, none⟩ = some (.int .i64 0) := (blk_cell BK442.out 1).trans rfl; have hcz12_2 : w11.cell? ⟨gb442, 2, none⟩ = some (.int .i64 0) := (blk_cell BK442.out 2).trans rfl; have hcz12_3 : w11.cell? ⟨gb442, 3, none⟩ = some (.int .i64 0) := (blk_cell BK442.out 3).trans rfl; have hcz12_4 : w11.cell? ⟨gb442, 4, none⟩ = some (.int .i64 0) := (blk_cell BK442.out 4).trans rfl; have hfz12_0 := blk_frozen BK442.out 0; have hfz12_1 := blk_frozen BK442.out 1; have hfz12_2 := blk_frozen BK442.out 2; have hfz12_3 := blk_frozen BK442.out 3; have hfz12_4 := blk_frozen BK442.out 4) | ((with_reducible refine gate_callee (f := 44) rfl ?_); refine goesL_ (some 23) rfl rfl Try.func44 (by kernel_rfl) rfl #[.agg #[.int .i64 t435, .int .i64 t436, .int .i64 t437, .int .i64 t438, .int .i64 t439], .int .i64 t440, .int .i64 t441] rfl (by (try simp only [mT_, mC_, mN_]); first | done | rfl | (simp only [List.length_drop, List.length_take]; rfl)) ?_; (with_reducible refine (impl_InsOk.calls k t435 t436 t437 t438 t439 t440 t441 t443 _ A5.out).mono ?_); rintro e w13 ⟨rfl, hb⟩; refine ⟨_, rfl, ?_⟩; have n0_ := aM_ (blk_below (g := gb442) (o := .cells #[.int .i64 t435, .int .i64 t436, .int .i64 t437, .int .i64 t438, .int .i64 t439] 66 (0, 0)) (by (with_reducible repeat (first | refine blk_drewN ?_ _ | refine blk_drew ?_ | refine blk_alloc ?_ _)); refine blk_put (cs := #[.int .i64 t435, .int .i64 t436, .int .i64 t437, .int .i64 t438, .int .i64 0]) ?_ 4 _ rfl; (with_reducible repeat (first | refine blk_drewN ?_ _ | refine blk_drew ?_ | refine blk_alloc ?_ _)); refine blk_put (cs := #[.int .i64 t435, .int .i64 t436, .int .i64 t437, .int .i64 0, .int .i64 0]) ?_ 3 _ rfl; (with_reducible repeat (first | refine blk_drewN ?_ _ | refine blk_drew ?_ | refine blk_alloc ?_ _)); refine blk_put (cs := #[.int .i64 t435, .int .i64 t436, .int .i64 0, .int .i64 0, .int .i64 0]) ?_ 2 _ rfl; (with_reducible repeat (first | refine blk_drewN ?_ _ | refine blk_drew ?_ | refine blk_alloc ?_ _)); refine blk_put (cs := #[.int .i64 t435, .int .i64 0, .int .i64 0, .int .i64 0, .int .i64 0]) ?_ 1 _ rfl; (with_reducible repeat (first | refine blk_drewN ?_ _ | refine blk_drew ?_ | refine blk_alloc ?_ _)); refine blk_put (cs := #[.int .i64 0, .int .i64 0, .int .i64 0, .int .i64 0, .int .i64 0]) ?_ 0 _ rfl; (with_reducible repeat (first | refine blk_drewN ?_ _ | refine blk_drew ?_ | refine blk_alloc ?_ _)); exact BK442.out) hb); have n1_ := aM_ (below_step (by repeat (first | (with_reducible first | exact HB.out | apply below_alloc | apply pw_below_drewN | apply below_drew1 | refine below_set ?_ GE442.out) | exact HB.out)) hb); clear BK442; clear HB; have BK442 := n0_; have HB := n1_; clear n0_ n1_) | ((with_reducible refine gate_callee (f := 45) rfl ?_); refine goesL_ (some 26) rfl rfl Try.func45 (by kernel_rfl) rfl #[.slice A0 l0.length c0] rfl (by (try simp only [mT_, mC_, mN_]); first | done | rfl | (simp only [List.length_drop, List.length_take]; rfl)) ?_; (with_reducible refine (spec_DrawBodyOk.calls k _ _ l0 t444 t445 _ ?side1 ?side2 A6.out).mono ?_); (case side1 => repeat (first | exact (Kd.C_below HR0.out HB.out) | (with_reducible refine Kd.C_alloc ?_ _) | (with_reducible refine Kd.C_drewN ?_ _) | (with_reducible refine Kd.C_drew ?_))); (case side2 => exact HC0.out); rintro e w14 ⟨v446, rfl, ho0, hb⟩; refine ⟨_, rfl, ?_⟩; have n0_ := aM_ (Kd.R_lower (Kd.R_newB ho0 (g := gb442) (o := .cells #[.int .i64 t435, .int .i64 t436, .int .i64 t437, .int .i64 t438, .int .i64 t439] 66 (0, 0)) (by (with_reducible repeat (first | refine blk_drewN ?_ _ | refine blk_drew ?_ | refine blk_alloc ?_ _)); exact BK442.out)) (below_size (by repeat (first | (with_reducible first | exact HB.out | apply below_alloc | apply pw_below_drewN | apply below_drew1 | refine below_set ?_ GE442.out) | exact HB.out)))); have n1_ := aM_ (blk_below (g := gb442) (o := .cells #[.int .i64 t435, .int .i64 t436, .int .i64 t437, .int .i64 t438, .int .i64 t439] 66 (0, 0)) (by (with_reducible repeat (first | refine blk_drewN ?_ _ | refine blk_drew ?_ | refine blk_alloc ?_ _)); exact BK442.out) hb); have n2_ := aM_ (below_step (by repeat (first | (with_reducible first | exact HB.out | apply below_alloc | apply pw_below_drewN | apply below_drew1 | refine below_set ?_ GE442.out) | exact HB.out)) hb); clear BK442; clear HB; have HO447 := n0_; have BK442 := n1_; have HB := n2_; clear n0_ n1_ n2_; (try clear ho0); obtain ⟨Ao15, co15, eo15⟩ := Kd.R_slice HO447.out; subst eo15) | ((with_reducible refine gate_callee (f := 46) rfl ?_); refine goesL_ (some 31) rfl rfl Try.func46 (by kernel_rfl) rfl #[.slice Ao15 t444.length co15, .int .i64 t445] rfl (by (try simp only [mT_, mC_, mN_]); first | done | rfl | (simp only [List.length_drop, List.length_take]; rfl)) ?_; (with_reducible refine (impl_BodyOk.calls k _ _ t444 t445 t448 _ ?side1 ?side2 A7.out).mono ?_); (case side1 => repeat (first | exact (Kd.R_reads' HO447.out).2.2 | (with_reducible refine Kd.C_alloc ?_ _) | (with_reducible refine Kd.C_drewN ?_ _) | (with_reducible refine Kd.C_drew ?_))); (case side2 => exact (Kd.R_reads' HO447.out).2.1); rintro e w16 ⟨rfl, hb⟩; refine ⟨_, rfl, ?_⟩; have n0_ := aM_ (Kd.R_below (by (with_reducible repeat (first | apply Kd.R_alloc | apply Kd.R_drewN | apply Kd.R_drew)); exact HO447.out) hb); have n1_ := aM_ (blk_below (g := gb442) (o := .cells #[.int .i64 t435, .int .i64 t436, .int .i64 t437, .int .i64 t438, .int .i64 t439] 66 (0, 0)) (by (with_reducible repeat (first | refine blk_drewN ?_ _ | refine blk_drew ?_ | refine blk_alloc ?_ _)); exact BK442.out) hb); have n2_ := aM_ (below_step (by repeat (first | (with_reducible first | exact HB.out | apply below_alloc | apply pw_below_drewN | apply below_drew1 | refine below_set ?_ GE442.out) | exact HB.out)) hb); clear HO447; clear BK442; clear HB; have HO447 := n0_; have BK442 := n1_; have HB := n2_; clear n0_ n1_ n2_) | ((with_reducible refine gate_callee (f := 47) rfl ?_); refine goesL_ (some 33) rfl rfl Try.func47 (by kernel_rfl) rfl #[.slice A0 l0.length c0] rfl (by (try simp only [mT_, mC_, mN_]); first | done | rfl | (simp only [List.length_drop, List.length_take]; rfl)) ?_; (with_reducible refine (spec_DrawProgOk.calls k _ _ l0 t449 t452 _ ?side1 ?side2 A8.out).mono ?_); (case side1 => repeat (first | exact (Kd.C_below HR0.out HB.out) | (with_reducible refine Kd.C_alloc ?_ _) | (with_reducible refine Kd.C_drewN ?_ _) | (with_reducible refine Kd.C_drew ?_))); (case side2 => exact HC0.out); rintro e w17 ⟨v450, v453, rfl, ho0, ho1, hb⟩; refine ⟨_, rfl, ?_⟩; have n0_ := aM_ (Kd.R_below (by (with_reducible repeat (first | apply Kd.R_alloc | apply Kd.R_drewN | apply Kd.R_drew)); exact HO447.out) hb); have n1_ := aM_ (Kd.R_lower ho0 (below_size (by repeat (first | (with_reducible first | exact HB.out | apply below_alloc | apply pw_below_drewN | apply below_drew1 | refine below_set ?_ GE442.out) | exact HB.out)))); have n2_ := aM_ (Kd.S_lower (Kd.S_newB (Kd.S_new' ho1 (Kd.R_lt (by (with_reducible repeat (first | apply Kd.R_alloc | apply Kd.R_drewN | apply Kd.R_drew)); exact HO447.out))) (g := gb442) (o := .cells #[.int .i64 t435, .int .i64 t436, .int .i64 t437, .int .i64 t438, .int .i64 t439] 66 (0, 0)) (by (with_reducible repeat (first | refine blk_drewN ?_ _ | refine blk_drew ?_ | refine blk_alloc ?_ _)); exact BK442.out)) (below_size (by repeat (first | (with_reducible first | exact HB.out | apply below_alloc | apply pw_below_drewN | apply below_drew1 | refine below_set ?_ GE442.out) | exact HB.out)))); have n3_ := aM_ (blk_below (g := gb442) (o := .cells #[.int .i64 t435, .int .i64 t436, .int .i64 t437, .int .i64 t438, .int .i64 t439] 66 (0, 0)) (by (with_reducible repeat (first | refine blk_drewN ?_ _ | refine blk_drew ?_ | refine blk_alloc ?_ _)); exact BK442.out) hb); have n4_ := aM_ (below_step (by repeat (first | (with_reducible first | exact HB.out | apply below_alloc | apply pw_below_drewN | apply below_drew1 | refine below_set ?_ GE442.out) | exact HB.out)) hb); clear HO447; clear BK442; clear HB; have HO447 := n0_; have HO451 := n1_; have HO454 := n2_; have BK442 := n3_; have HB := n4_; clear n0_ n1_ n2_ n3_ n4_; (try clear ho0); (try clear ho1)) | ((with_reducible refine gate_dst (N := 10) rfl ?_); refine box_event ?hg (N := 10) ?hd (cs := #[.slice none 0 0, .slice none 0 0]) (t := 53) ?hr ?_; (case hd => rfl); (case hg => rfl); (case hr => first | (go_simp; done) | (go_simp; rfl)); intro gb455 hg w18 hbox hb; have n0_ := aM_ (Kd.R_below (by (with_reducible repeat (first | apply Kd.R_alloc | apply Kd.R_drewN | apply Kd.R_drew)); exact HO447.out) hb); have n1_ := aM_ (Kd.R_below (by (with_reducible repeat (first | apply Kd.R_alloc | apply Kd.R_drewN | apply Kd.R_drew)); exact HO451.out) hb); have n2_ := aM_ (Kd.S_below (by (with_reducible repeat (first | apply Kd.S_alloc | apply Kd.S_drewN | apply Kd.S_drew)); exact HO454.out) hb); have n3_ := aM_ (blk_below (g := gb442) (o := .cells #[.int .i64 t435, .int .i64 t436, .int .i64 t437, .int .i64 t438, .int .i64 t439] 66 (0, 0)) (by (with_reducible repeat (first | refine blk_drewN ?_ _ | refine blk_drew ?_ | refine blk_alloc ?_ _)); exact BK442.out) hb); have n4_ := aM_ (below_step (by repeat (first | (with_reducible first | exact HB.out | apply below_alloc | apply pw_below_drewN | apply below_drew1 | refine below_set ?_ GE442.out) | exact HB.out)) hb); have n5_ := aM_ (hbox); have n6_ := aM_ ((by rw [hg]; exact (below_size (by repeat (first | (with_reducible first | exact HB.out | apply below_alloc | apply pw_below_drewN | apply below_drew1 | refine below_set ?_ GE442.out) | exact HB.out))) : w.heap.size ≤ gb455)); have n7_ := aM_ ((by rw [hg]; exact (below_size (by repeat (first | (with_reducible first | exact HB.out | apply below_alloc | apply pw_below_drewN | apply below_drew1 | refine below_set ?_ GE442.out) | exact HB.out))) : w.heap.size ≤ gb455)); have n8_ := aM_ ((by rw [hg]; exact Nat.ne_of_lt (blk_lt (g := gb442) (o := .cells #[.int .i64 t435, .int .i64 t436, .int .i64 t437, .int .i64 t438, .int .i64 t439] 66 (0, 0)) (by (with_reducible repeat (first | refine blk_drewN ?_ _ | refine blk_drew ?_ | refine blk_alloc ?_ _)); exact BK442.out)) : gb442 ≠ gb455)); have n9_ := aM_ ((by rw [hg]; exact Nat.ne_of_gt (blk_lt (g := gb442) (o := .cells #[.int .i64 t435, .int .i64 t436, .int .i64 t437, .int .i64 t438, .int .i64 t439] 66 (0, 0)) (by (with_reducible repeat (first | refine blk_drewN ?_ _ | refine blk_drew ?_ | refine blk_alloc ?_ _)); exact BK442.out)) : gb455 ≠ gb442)); clear HO447; clear HO451; clear HO454; clear BK442; clear HB; have HO447 := n0_; have HO451 := n1_; have HO454 := n2_; have BK442 := n3_; have HB := n4_; have BK455 := n5_; have GW455 := n6_; have GE455 := n7_; have NB442_455 := n8_; have NB455_442 := n9_; clear n0_ n1_ n2_ n3_ n4_ n5_ n6_ n7_ n8_ n9_; clear hb hbox hg; obtain ⟨Ao19, co19, eo19⟩ := Kd.R_slice HO451.out; subst eo19; have hnb20 := NB455_442.out; have hnc20 := NB442_455.out; have hcz21_0 : w18.cell? ⟨gb455, 0, none⟩ = some (.slice none 0 0) := (blk_cell BK455.out 0).trans rfl; have hcz21_1 : w18.cell? ⟨gb455, 1, none⟩ = some (.slice none 0 0) := (blk_cell BK455.out 1).trans rfl; have hfz21_0 := blk_frozen BK455.out 0; have hfz21_1 := blk_frozen BK455.out 1; obtain ⟨Ao22, co22, eo22⟩ := Kd.S_slice HO454.out; subst eo22))
  (try simp only [Act.put, List.setIfInBounds_toArray, List.set_cons_zero, List.set_cons_succ])
  go_cut [53] (fun v53 wc => ∃ (kq : Nat) (x53_8 : Bool), v53 = .bool x53_8 ∧ Aside0 (laws_FnRight.j0 kq t440 t441 t443 t444 t445 t448 x53_8 t435 t436 t437 t438 t439 = some r) ∧ Aside0 (kq ≤ k) ∧ Aside0 (Kd.R k66 66 wc w.heap.size (fun k_ => k_ ≠ gb442) (.slice Ao15 t444.length co15) t444) ∧ Aside0 (Kd.R (Kd.int .i64) 3 wc w.heap.size (fun _ => True) (.slice Ao19 t449.length co19) t449) ∧ Aside0 (Kd.S (Kd.slice 66 k66) 70 wc w.heap.size (fun k_ => some k_ ≠ ((.slice Ao15 t444.length co15) : Value).ownBlock ∧ k_ ≠ gb442) (.slice Ao22 t452.length co22) t452) ∧ Aside0 (wc.heap[gb442]? = some (.cells #[.int .i64 t435, .int .i64 t436, .int .i64 t437, .int .i64 t438, .int .i64 t439] 66 (0, 0))) ∧ Aside0 (wc.heap[gb455]? = some (.cells #[(.slice Ao19 t449.length co19), (.slice Ao22 t452.length co22)] 53 (0, 0))) ∧ Aside0 (Below w.heap.size w wc))
  case first =>
   have H := HC9.out
   clear HC9
   replace H := Option.bind_eq_some_iff.mp H
   obtain ⟨t456, A230, H⟩ := H
   replace H : (if (t443 != t456) = true then (laws_FnRight.j0 k t440 t441 t443 t444 t445 t448 true t435 t436 t437 t438 t439) else ((spec_BodyOk.f k t444 t445).bind fun t457 => (if (t448 != t457) = true then (laws_FnRight.j0 k t440 t441 t443 t444 t445 t448 true t435 t436 t437 t438 t439) else ((impl_ProgOk.f k t449 t452).bind fun t458 => ((spec_ProgOk.f k t449 t452).bind fun t459 => (laws_FnRight.j0 k t440 t441 t443 t444 t445 t448 (t458 != t459) t435 t436 t437 t438 t439)))))) = some r := H
   have A23 := aM_ A230
   clear A230
   by_cases c24 : (t443 != t456) = true
   ·rw [if_pos c24] at H
    have c24b0 : (t443 != t456) = true := c24
    (try (have c24b1 : decide (t443 = t456) = false := by simpa using c24))
    (try (have c24b2 : (t443 == t456) = false := by simpa using c24))
    (try (have c24b3 : ¬ (t443 = t456) := by simpa using c24))
    clear c24
    (first | rw [c24b0] | (simp only [i64_w, i32_w]; rw [c24b0]) | skip)
    have H' := aM_ H
    clear H
    try go_wp2
    have n0_ : Aside0 (Kd.R k66 66 ((w18.setCell ⟨gb455, 0, none⟩ (.slice Ao19 t449.length co19)).setCell ⟨gb455, 1, none⟩ (.slice Ao22 t452.length co22)) w.heap.size (fun k_ => k_ ≠ gb442) (.slice Ao15 t444.length co15) t444) := ⟨by (with_reducible repeat (first | apply Kd.R_alloc | apply Kd.R_drewN | apply Kd.R_drew)); exact Kd.R_mono (Kd.R_far (p := ⟨gb455, 1, none⟩) (Kd.R_far (p := ⟨gb455, 0, none⟩) (Kd.R_types HO447.out BK455.out (by decide)) (fun _ hk => hk.2) (.slice Ao19 t449.length co19)) (fun _ hk => hk.2) (.slice Ao22 t452.length co22)) (fun _ hk => hk.1.2)⟩
    have n1_ : Aside0 (Kd.R (Kd.int .i64) 3 ((w18.setCell ⟨gb455, 0, none⟩ (.slice Ao19 t449.length co19)).setCell ⟨gb455, 1, none⟩ (.slice Ao22 t452.length co22)) w.heap.size (fun _ => True) (.slice Ao19 t449.length co19) t449) := ⟨by (with_reducible repeat (first | apply Kd.R_alloc | apply Kd.R_drewN | apply Kd.R_drew)); exact Kd.R_mono (Kd.R_far (p := ⟨gb455, 1, none⟩) (Kd.R_far (p := ⟨gb455, 0, none⟩) (Kd.R_types HO451.out BK455.out (by decide)) (fun _ hk => hk.2) (.slice Ao19 t449.length co19)) (fun _ hk => hk.2) (.slice Ao22 t452.length co22)) (fun _ hk => trivial)⟩
    have n2_ : Aside0 (Kd.S (Kd.slice 66 k66) 70 ((w18.setCell ⟨gb455, 0, none⟩ (.slice Ao19 t449.length co19)).setCell ⟨gb455, 1, none⟩ (.slice Ao22 t452.length co22)) w.heap.size (fun k_ => some k_ ≠ (.slice Ao15 t444.length co15 : Value).ownBlock ∧ k_ ≠ gb442) (.slice Ao22 t452.length co22) t452) := ⟨by (with_reducible repeat (first | apply Kd.S_alloc | apply Kd.S_drewN | apply Kd.S_drew)); exact Kd.S_mono (Kd.S_far (p := ⟨gb455, 1, none⟩) (Kd.S_far (p := ⟨gb455, 0, none⟩) (Kd.S_types HO454.out BK455.out (by decide)) (fun _ hk => hk.2) (.slice Ao19 t449.length co19)) (fun _ hk => hk.2) (.slice Ao22 t452.length co22)) (fun _ hk => ⟨hk.1.1.2, hk.1.2⟩)⟩
    have n3_ : Aside0 (((w18.setCell ⟨gb455, 0, none⟩ (.slice Ao19 t449.length co19)).setCell ⟨gb455, 1, none⟩ (.slice Ao22 t452.length co22)).heap[gb442]? = some (.cells #[.int .i64 t435, .int .i64 t436, .int .i64 t437, .int .i64 t438, .int .i64 t439] 66 (0, 0))) := ⟨by (with_reducible repeat (first | refine blk_drewN ?_ _ | refine blk_drew ?_ | refine blk_alloc ?_ _)); refine blk_far ?_ NB442_455.out _; (with_reducible repeat (first | refine blk_drewN ?_ _ | refine blk_drew ?_ | refine blk_alloc ?_ _)); refine blk_far ?_ NB442_455.out _; (with_reducible repeat (first | refine blk_drewN ?_ _ | refine blk_drew ?_ | refine blk_alloc ?_ _)); exact BK442.out⟩
    have n4_ : Aside0 (((w18.setCell ⟨gb455, 0, none⟩ (.slice Ao19 t449.length co19)).setCell ⟨gb455, 1, none⟩ (.slice Ao22 t452.length co22)).heap[gb455]? = some (.cells #[.slice Ao19 t449.length co19, .slice Ao22 t452.length co22] 53 (0, 0))) := ⟨by (with_reducible repeat (first | refine blk_drewN ?_ _ | refine blk_drew ?_ | refine blk_alloc ?_ _)); refine blk_put (cs := #[.slice Ao19 t449.length co19, .slice none 0 0]) ?_ 1 _ rfl; (with_reducible repeat (first | refine blk_drewN ?_ _ | refine blk_drew ?_ | refine blk_alloc ?_ _)); refine blk_put (cs := #[.slice none 0 0, .slice none 0 0]) ?_ 0 _ rfl; (with_reducible repeat (first | refine blk_drewN ?_ _ | refine blk_drew ?_ | refine blk_alloc ?_ _)); exact BK455.out⟩
    have n5_ : Aside0 (Below w.heap.size w ((w18.setCell ⟨gb455, 0, none⟩ (.slice Ao19 t449.length co19)).setCell ⟨gb455, 1, none⟩ (.slice Ao22 t452.length co22))) := ⟨by repeat (first | (with_reducible first | exact HB.out | apply below_alloc | apply pw_below_drewN | apply below_drew1 | refine below_set ?_ GE442.out | refine below_set ?_ GE455.out) | exact HB.out)⟩
    (try clear HO447)
    (try clear HO451)
    (try clear HO454)
    (try clear BK442)
    (try clear BK455)
    (try clear HB)
    generalize ((w18.setCell ⟨gb455, 0, none⟩ (.slice Ao19 t449.length co19)).setCell ⟨gb455, 1, none⟩ (.slice Ao22 t452.length co22)) = w25 at n0_ n1_ n2_ n3_ n4_ n5_ ⊢
    have HO447 := n0_
    have HO451 := n1_
    have HO454 := n2_
    have BK442 := n3_
    have BK455 := n4_
    have HB := n5_
    clear n0_ n1_ n2_ n3_ n4_ n5_
    have n0_ := aM_ (Kd.R_drew HO447.out)
    have n1_ := aM_ (Kd.R_drew HO451.out)
    have n2_ := aM_ (Kd.S_drew HO454.out)
    have n3_ := aM_ (blk_drew BK442.out)
    have n4_ := aM_ (blk_drew BK455.out)
    have n5_ := aM_ (below_drew1 HB.out)
    clear HO447
    clear HO451
    clear HO454
    clear BK442
    clear BK455
    clear HB
    have HO447 := n0_
    have HO451 := n1_
    have HO454 := n2_
    have BK442 := n3_
    have BK455 := n4_
    have HB := n5_
    clear n0_ n1_ n2_ n3_ n4_ n5_
    refine start_ (n := 20) (S := fun w' => w'.cell? ⟨gb442, 0, none⟩ = some (.int .i64 t435) ∧ w'.cell? ⟨gb442, 1, none⟩ = some (.int .i64 t436) ∧ w'.cell? ⟨gb442, 2, none⟩ = some (.int .i64 t437) ∧ w'.cell? ⟨gb442, 3, none⟩ = some (.int .i64 t438) ∧ w'.cell? ⟨gb442, 4, none⟩ = some (.int .i64 t439)) (ds := []) #[false, false, false, false, false, false, false, false, false, false, false, false, false, false, false, false, false, false, false, false] (by kernel_rfl) rfl rfl ⟨(blk_cell BK442.out 0).trans rfl, (blk_cell BK442.out 1).trans rfl, (blk_cell BK442.out 2).trans rfl, (blk_cell BK442.out 3).trans rfl, (blk_cell BK442.out 4).trans rfl⟩ (fun hHeld => ?_); refine with_tabW laws_FnRight.tab8 laws_FnRight.bits8 (fun HT_ HW_ => ?_)
    generalize w25.drew = w26 at HO447 HO451 HO454 BK442 BK455 HB hHeld ⊢
    refine pure_ (i := 0) (N := some 34) (v := ?_) (a' := ?_) #[true, false, false, false, false, false, false, false, false, false, false, false, false, false, false, false, false, false, false, false] rfl rfl (any_of HT_.out (by kernel_rfl)) (fun _ _ _ h => h) (Or.inl ⟨by rfl, ?_⟩) ?_ ?_
    rotate_left
    ·intro w'
     go_simp
     with_reducible rfl
    rotate_left
    ·simp only [pt_, pn_, sI_, s0_, s1_, i64_w, i32_w]
     rfl
    refine pure_ (i := 2) (N := some 36) (v := ?_) (a' := ?_) #[true, false, true, false, false, false, false, false, false, false, false, false, false, false, false, false, false, false, false, false] rfl rfl (any_of HT_.out (by kernel_rfl)) (fun _ _ _ h => h) (Or.inl ⟨by rfl, ?_⟩) ?_ ?_
    rotate_left
    ·intro w'
     go_simp
     with_reducible rfl
    rotate_left
    ·simp only [pt_, pn_, sI_, s0_, s1_, i64_w, i32_w]
     rfl
    refine pure_ (i := 3) (N := some 37) (v := ?_) (a' := ?_) #[true, false, true, true, false, false, false, false, false, false, false, false, false, false, false, false, false, false, false, false] rfl rfl (any_of HT_.out (by kernel_rfl)) (fun _ _ _ h => h) (Or.inl ⟨by rfl, ?_⟩) ?_ ?_
    rotate_left
    ·intro w'
     go_simp
     with_reducible rfl
    rotate_left
    ·simp only [pt_, pn_, sI_, s0_, s1_, i64_w, i32_w]
     rfl
    refine take_ (i := 1) (N := some 35) (v := ?_) (a' := ?_) #[true, true, true, true, false, false, false, false, false, false, false, false, false, false, false, false, false, false, false, false] rfl rfl (take_ofW HT_.out HW_.out (by kernel_rfl)) (fun _ _ _ h => h) (Or.inl ⟨by rfl, ?_⟩) hHeld ?_ ?_
    rotate_left
    ·rintro w' ⟨s0, s1, s2, s3, s4⟩
     go_simp
     with_reducible rfl
    rotate_left
    ·simp only [pt_, pn_, sI_, s0_, s1_, i64_w, i32_w]
     rfl
    refine one_ (i := 4) (N := some 38) #[true, true, true, true, true, false, false, false, false, false, false, false, false, false, false, false, false, false, false, false] rfl rfl (one_of HT_.out (by kernel_rfl)) (by decide) (fun K hK => ?_)
    refine goes_ Try.func48 (by kernel_rfl) rfl #[.agg #[.int .i64 t435, .int .i64 t436, .int .i64 t437, .int .i64 t438, .int .i64 t439], .int .i64 t440, .int .i64 t441] (by rfl) rfl rfl (by (try simp only [mT_, mC_, mN_]); first | done | rfl | (simp only [List.length_drop, List.length_take]; rfl)) ?_
    with_reducible refine (spec_InsOk.calls k t435 t436 t437 t438 t439 t440 t441 t456 _ A23.out).mono ?_
    rintro e w27 ⟨rfl, hb⟩
    refine ⟨_, rfl, ?_⟩
    have n0_ := aM_ (Kd.R_below (by (with_reducible repeat (first | apply Kd.R_alloc | apply Kd.R_drewN | apply Kd.R_drew)); exact HO447.out) hb)
    have n1_ := aM_ (Kd.R_below (by (with_reducible repeat (first | apply Kd.R_alloc | apply Kd.R_drewN | apply Kd.R_drew)); exact HO451.out) hb)
    have n2_ := aM_ (Kd.S_below (by (with_reducible repeat (first | apply Kd.S_alloc | apply Kd.S_drewN | apply Kd.S_drew)); exact HO454.out) hb)
    have n3_ := aM_ (blk_below (g := gb442) (o := .cells #[.int .i64 t435, .int .i64 t436, .int .i64 t437, .int .i64 t438, .int .i64 t439] 66 (0, 0)) (by (with_reducible repeat (first | refine blk_drewN ?_ _ | refine blk_drew ?_ | refine blk_alloc ?_ _)); exact BK442.out) hb)
    have n4_ := aM_ (blk_below (g := gb455) (o := .cells #[.slice Ao19 t449.length co19, .slice Ao22 t452.length co22] 53 (0, 0)) (by (with_reducible repeat (first | refine blk_drewN ?_ _ | refine blk_drew ?_ | refine blk_alloc ?_ _)); exact BK455.out) hb)
    have n5_ := aM_ (below_step (by repeat (first | (with_reducible first | exact HB.out | apply below_alloc | apply pw_below_drewN | apply below_drew1 | refine below_set ?_ GE442.out | refine below_set ?_ GE455.out) | exact HB.out)) hb)
    clear HO447
    clear HO451
    clear HO454
    clear BK442
    clear BK455
    clear HB
    have HO447 := n0_
    have HO451 := n1_
    have HO454 := n2_
    have BK442 := n3_
    have BK455 := n4_
    have HB := n5_
    clear n0_ n1_ n2_ n3_ n4_ n5_
    (try clear hb)
    (try clear hb2)
    (try clear hk)
    (try clear hi)
    refine hK.out _ _ ⟨(blk_cell BK442.out 0).trans rfl, (blk_cell BK442.out 1).trans rfl, (blk_cell BK442.out 2).trans rfl, (blk_cell BK442.out 3).trans rfl, (blk_cell BK442.out 4).trans rfl⟩ (fun hHeld => ?_)
    clear hK K
    refine norm_ (a' := ?_) ?_ ?_
    rotate_left
    ·show Act.put _ (some 38) _ = _
     simp only [pt_, pn_, sI_, s0_, s1_, i64_w, i32_w]
     rfl
    refine pure_ (i := 5) (N := some 39) (v := ?_) (a' := ?_) #[true, true, true, true, true, true, false, false, false, false, false, false, false, false, false, false, false, false, false, false] rfl rfl (any_of HT_.out (by kernel_rfl)) (fun _ _ _ h => h) (Or.inl ⟨by rfl, ?_⟩) ?_ ?_
    rotate_left
    ·intro w'
     go_simp
     with_reducible rfl
    rotate_left
    ·simp only [pt_, pn_, sI_, s0_, s1_, i64_w, i32_w]
     rfl
    refine pure_ (i := 6) (N := some 40) (v := ?_) (a' := ?_) #[true, true, true, true, true, true, true, false, false, false, false, false, false, false, false, false, false, false, false, false] rfl rfl (any_of HT_.out (by kernel_rfl)) (fun _ _ _ h => h) (Or.inl ⟨by rfl, ?_⟩) ?_ ?_
    rotate_left
    ·intro w'
     go_simp
     with_reducible rfl
    rotate_left
    ·simp only [pt_, pn_, sI_, s0_, s1_, i64_w, i32_w]
     rfl
    refine pure_ (i := 7) (N := some 41) (v := undef) (a' := ?_) #[true, true, true, true, true, true, true, true, false, false, false, false, false, false, false, false, false, false, false, false] rfl rfl (any_of HT_.out (by kernel_rfl)) (fun _ _ _ h => h) (Or.inr ⟨by rfl, rfl⟩) ?_ ?_
    rotate_left
    ·simp only [pt_, pn_, sI_, s0_, s1_, i64_w, i32_w]
     rfl
    refine pure_ (i := 8) (N := some 42) (v := undef) (a' := ?_) #[true, true, true, true, true, true, true, true, true, false, false, false, false, false, false, false, false, false, false, false] rfl rfl (any_of HT_.out (by kernel_rfl)) (fun _ _ _ h => h) (Or.inr ⟨by rfl, rfl⟩) ?_ ?_
    rotate_left
    ·simp only [pt_, pn_, sI_, s0_, s1_, i64_w, i32_w]
     rfl
    refine pure_ (i := 9) (N := some 43) (v := undef) (a' := ?_) #[true, true, true, true, true, true, true, true, true, true, false, false, false, false, false, false, false, false, false, false] rfl rfl (any_of HT_.out (by kernel_rfl)) (fun _ _ _ h => h) (Or.inr ⟨by rfl, rfl⟩) ?_ ?_
    rotate_left
    ·simp only [pt_, pn_, sI_, s0_, s1_, i64_w, i32_w]
     rfl
    refine pure_ (i := 10) (N := some 44) (v := undef) (a' := ?_) #[true, true, true, true, true, true, true, true, true, true, true, false, false, false, false, false, false, false, false, false] rfl rfl (any_of HT_.out (by kernel_rfl)) (fun _ _ _ h => h) (Or.inr ⟨by rfl, rfl⟩) ?_ ?_
    rotate_left
    ·simp only [pt_, pn_, sI_, s0_, s1_, i64_w, i32_w]
     rfl
    refine pure_ (i := 11) (N := some 45) (v := undef) (a' := ?_) #[true, true, true, true, true, true, true, true, true, true, true, true, false, false, false, false, false, false, false, false] rfl rfl (any_of HT_.out (by kernel_rfl)) (fun _ _ _ h => h) (Or.inr ⟨by rfl, rfl⟩) ?_ ?_
    rotate_left
    ·simp only [pt_, pn_, sI_, s0_, s1_, i64_w, i32_w]
     rfl
    refine pure_ (i := 12) (N := some 46) (v := ?_) (a' := ?_) #[true, true, true, true, true, true, true, true, true, true, true, true, true, false, false, false, false, false, false, false] rfl rfl (any_of HT_.out (by kernel_rfl)) (fun _ _ _ h => h) (Or.inl ⟨by rfl, ?_⟩) ?_ ?_
    rotate_left
    ·intro w'
     go_simp
     with_reducible rfl
    rotate_left
    ·simp only [pt_, pn_, sI_, s0_, s1_, i64_w, i32_w]
     rfl
    refine pure_ (i := 13) (N := some 47) (v := ?_) (a' := ?_) #[true, true, true, true, true, true, true, true, true, true, true, true, true, true, false, false, false, false, false, false] rfl rfl (any_of HT_.out (by kernel_rfl)) (fun _ _ _ h => h) (Or.inl ⟨by rfl, ?_⟩) ?_ ?_
    rotate_left
    ·intro w'
     go_simp
     with_reducible rfl
    rotate_left
    ·simp only [pt_, pn_, sI_, s0_, s1_, i64_w, i32_w]
     rfl
    refine pure_ (i := 14) (N := some 48) (v := undef) (a' := ?_) #[true, true, true, true, true, true, true, true, true, true, true, true, true, true, true, false, false, false, false, false] rfl rfl (any_of HT_.out (by kernel_rfl)) (fun _ _ _ h => h) (Or.inr ⟨by rfl, rfl⟩) ?_ ?_
    rotate_left
    ·simp only [pt_, pn_, sI_, s0_, s1_, i64_w, i32_w]
     rfl
    refine pure_ (i := 15) (N := some 49) (v := undef) (a' := ?_) #[true, true, true, true, true, true, true, true, true, true, true, true, true, true, true, true, false, false, false, false] rfl rfl (any_of HT_.out (by kernel_rfl)) (fun _ _ _ h => h) (Or.inr ⟨by rfl, rfl⟩) ?_ ?_
    rotate_left
    ·simp only [pt_, pn_, sI_, s0_, s1_, i64_w, i32_w]
     rfl
    refine pure_ (i := 16) (N := some 50) (v := undef) (a' := ?_) #[true, true, true, true, true, true, true, true, true, true, true, true, true, true, true, true, true, false, false, false] rfl rfl (any_of HT_.out (by kernel_rfl)) (fun _ _ _ h => h) (Or.inr ⟨by rfl, rfl⟩) ?_ ?_
    rotate_left
    ·simp only [pt_, pn_, sI_, s0_, s1_, i64_w, i32_w]
     rfl
    refine pure_ (i := 17) (N := some 51) (v := undef) (a' := ?_) #[true, true, true, true, true, true, true, true, true, true, true, true, true, true, true, true, true, true, false, false] rfl rfl (any_of HT_.out (by kernel_rfl)) (fun _ _ _ h => h) (Or.inr ⟨by rfl, rfl⟩) ?_ ?_
    rotate_left
    ·simp only [pt_, pn_, sI_, s0_, s1_, i64_w, i32_w]
     rfl
    refine pure_ (i := 18) (N := some 52) (v := undef) (a' := ?_) #[true, true, true, true, true, true, true, true, true, true, true, true, true, true, true, true, true, true, true, false] rfl rfl (any_of HT_.out (by kernel_rfl)) (fun _ _ _ h => h) (Or.inr ⟨by rfl, rfl⟩) ?_ ?_
    rotate_left
    ·simp only [pt_, pn_, sI_, s0_, s1_, i64_w, i32_w]
     rfl
    refine pure_ (i := 19) (N := some 53) (v := ?_) (a' := ?_) #[true, true, true, true, true, true, true, true, true, true, true, true, true, true, true, true, true, true, true, true] rfl rfl (any_of HT_.out (by kernel_rfl)) (fun _ _ _ h => h) (Or.inl ⟨by rfl, ?_⟩) ?_ ?_
    rotate_left
    ·intro w'
     go_simp
     with_reducible rfl
    rotate_left
    ·simp only [pt_, pn_, sI_, s0_, s1_, i64_w, i32_w]
     rfl
    refine done_ (done_of HT_.out (by kernel_rfl)) ?_
    try go_wp2
    go_meet
    case rel => exact ⟨_, (true), (by first | rfl | (simp; done) | (simp [*]; done)), H', ⟨by first | omega | exact Nat.le_refl _⟩, ⟨by (with_reducible repeat (first | apply Kd.R_alloc | apply Kd.R_drewN | apply Kd.R_drew)); exact HO447.out⟩, ⟨by (with_reducible repeat (first | apply Kd.R_alloc | apply Kd.R_drewN | apply Kd.R_drew)); exact HO451.out⟩, ⟨by (with_reducible repeat (first | apply Kd.S_alloc | apply Kd.S_drewN | apply Kd.S_drew)); exact HO454.out⟩, ⟨by (with_reducible repeat (first | refine blk_drewN ?_ _ | refine blk_drew ?_ | refine blk_alloc ?_ _)); exact BK442.out⟩, ⟨by (with_reducible repeat (first | refine blk_drewN ?_ _ | refine blk_drew ?_ | refine blk_alloc ?_ _)); exact BK455.out⟩, ⟨by repeat (first | (with_reducible first | exact HB.out | apply below_alloc | apply pw_below_drewN | apply below_drew1 | refine below_set ?_ GE442.out | refine below_set ?_ GE455.out) | exact HB.out)⟩⟩
   ·rw [if_neg c24] at H
    have c24b0 : (t443 != t456) = false := by simpa using c24
    (try (have c24b1 : decide (t443 = t456) = true := by simpa using c24))
    (try (have c24b2 : (t443 == t456) = true := by simpa using c24))
    clear c24
    (first | rw [c24b0] | (simp only [i64_w, i32_w]; rw [c24b0]) | skip)
    replace H := Option.bind_eq_some_iff.mp H
    obtain ⟨t457, A280, H⟩ := H
    replace H : (if (t448 != t457) = true then (laws_FnRight.j0 k t440 t441 t443 t444 t445 t448 true t435 t436 t437 t438 t439) else ((impl_ProgOk.f k t449 t452).bind fun t458 => ((spec_ProgOk.f k t449 t452).bind fun t459 => (laws_FnRight.j0 k t440 t441 t443 t444 t445 t448 (t458 != t459) t435 t436 t437 t438 t439)))) = some r := H
    have A28 := aM_ A280
    clear A280
    by_cases c29 : (t448 != t457) = true
    ·rw [if_pos c29] at H
     have c29b0 : (t448 != t457) = true := c29
     (try (have c29b1 : decide (t448 = t457) = false := by simpa using c29))
     (try (have c29b2 : (t448 == t457) = false := by simpa using c29))
     (try (have c29b3 : ¬ (t448 = t457) := by simpa using c29))
     clear c29
     have H' := aM_ H
     clear H
     try go_wp2
     have n0_ : Aside0 (Kd.R k66 66 ((w18.setCell ⟨gb455, 0, none⟩ (.slice Ao19 t449.length co19)).setCell ⟨gb455, 1, none⟩ (.slice Ao22 t452.length co22)) w.heap.size (fun k_ => k_ ≠ gb442) (.slice Ao15 t444.length co15) t444) := ⟨by (with_reducible repeat (first | apply Kd.R_alloc | apply Kd.R_drewN | apply Kd.R_drew)); exact Kd.R_mono (Kd.R_far (p := ⟨gb455, 1, none⟩) (Kd.R_far (p := ⟨gb455, 0, none⟩) (Kd.R_types HO447.out BK455.out (by decide)) (fun _ hk => hk.2) (.slice Ao19 t449.length co19)) (fun _ hk => hk.2) (.slice Ao22 t452.length co22)) (fun _ hk => hk.1.2)⟩
     have n1_ : Aside0 (Kd.R (Kd.int .i64) 3 ((w18.setCell ⟨gb455, 0, none⟩ (.slice Ao19 t449.length co19)).setCell ⟨gb455, 1, none⟩ (.slice Ao22 t452.length co22)) w.heap.size (fun _ => True) (.slice Ao19 t449.length co19) t449) := ⟨by (with_reducible repeat (first | apply Kd.R_alloc | apply Kd.R_drewN | apply Kd.R_drew)); exact Kd.R_mono (Kd.R_far (p := ⟨gb455, 1, none⟩) (Kd.R_far (p := ⟨gb455, 0, none⟩) (Kd.R_types HO451.out BK455.out (by decide)) (fun _ hk => hk.2) (.slice Ao19 t449.length co19)) (fun _ hk => hk.2) (.slice Ao22 t452.length co22)) (fun _ hk => trivial)⟩
     have n2_ : Aside0 (Kd.S (Kd.slice 66 k66) 70 ((w18.setCell ⟨gb455, 0, none⟩ (.slice Ao19 t449.length co19)).setCell ⟨gb455, 1, none⟩ (.slice Ao22 t452.length co22)) w.heap.size (fun k_ => some k_ ≠ (.slice Ao15 t444.length co15 : Value).ownBlock ∧ k_ ≠ gb442) (.slice Ao22 t452.length co22) t452) := ⟨by (with_reducible repeat (first | apply Kd.S_alloc | apply Kd.S_drewN | apply Kd.S_drew)); exact Kd.S_mono (Kd.S_far (p := ⟨gb455, 1, none⟩) (Kd.S_far (p := ⟨gb455, 0, none⟩) (Kd.S_types HO454.out BK455.out (by decide)) (fun _ hk => hk.2) (.slice Ao19 t449.length co19)) (fun _ hk => hk.2) (.slice Ao22 t452.length co22)) (fun _ hk => ⟨hk.1.1.2, hk.1.2⟩)⟩
     have n3_ : Aside0 (((w18.setCell ⟨gb455, 0, none⟩ (.slice Ao19 t449.length co19)).setCell ⟨gb455, 1, none⟩ (.slice Ao22 t452.length co22)).heap[gb442]? = some (.cells #[.int .i64 t435, .int .i64 t436, .int .i64 t437, .int .i64 t438, .int .i64 t439] 66 (0, 0))) := ⟨by (with_reducible repeat (first | refine blk_drewN ?_ _ | refine blk_drew ?_ | refine blk_alloc ?_ _)); refine blk_far ?_ NB442_455.out _; (with_reducible repeat (first | refine blk_drewN ?_ _ | refine blk_drew ?_ | refine blk_alloc ?_ _)); refine blk_far ?_ NB442_455.out _; (with_reducible repeat (first | refine blk_drewN ?_ _ | refine blk_drew ?_ | refine blk_alloc ?_ _)); exact BK442.out⟩
     have n4_ : Aside0 (((w18.setCell ⟨gb455, 0, none⟩ (.slice Ao19 t449.length co19)).setCell ⟨gb455, 1, none⟩ (.slice Ao22 t452.length co22)).heap[gb455]? = some (.cells #[.slice Ao19 t449.length co19, .slice Ao22 t452.length co22] 53 (0, 0))) := ⟨by (with_reducible repeat (first | refine blk_drewN ?_ _ | refine blk_drew ?_ | refine blk_alloc ?_ _)); refine blk_put (cs := #[.slice Ao19 t449.length co19, .slice none 0 0]) ?_ 1 _ rfl; (with_reducible repeat (first | refine blk_drewN ?_ _ | refine blk_drew ?_ | refine blk_alloc ?_ _)); refine blk_put (cs := #[.slice none 0 0, .slice none 0 0]) ?_ 0 _ rfl; (with_reducible repeat (first | refine blk_drewN ?_ _ | refine blk_drew ?_ | refine blk_alloc ?_ _)); exact BK455.out⟩
     have n5_ : Aside0 (Below w.heap.size w ((w18.setCell ⟨gb455, 0, none⟩ (.slice Ao19 t449.length co19)).setCell ⟨gb455, 1, none⟩ (.slice Ao22 t452.length co22))) := ⟨by repeat (first | (with_reducible first | exact HB.out | apply below_alloc | apply pw_below_drewN | apply below_drew1 | refine below_set ?_ GE442.out | refine below_set ?_ GE455.out) | exact HB.out)⟩
     (try clear HO447)
     (try clear HO451)
     (try clear HO454)
     (try clear BK442)
     (try clear BK455)
     (try clear HB)
     generalize ((w18.setCell ⟨gb455, 0, none⟩ (.slice Ao19 t449.length co19)).setCell ⟨gb455, 1, none⟩ (.slice Ao22 t452.length co22)) = w30 at n0_ n1_ n2_ n3_ n4_ n5_ ⊢
     have HO447 := n0_
     have HO451 := n1_
     have HO454 := n2_
     have BK442 := n3_
     have BK455 := n4_
     have HB := n5_
     clear n0_ n1_ n2_ n3_ n4_ n5_
     have n0_ := aM_ (Kd.R_drew HO447.out)
     have n1_ := aM_ (Kd.R_drew HO451.out)
     have n2_ := aM_ (Kd.S_drew HO454.out)
     have n3_ := aM_ (blk_drew BK442.out)
     have n4_ := aM_ (blk_drew BK455.out)
     have n5_ := aM_ (below_drew1 HB.out)
     clear HO447
     clear HO451
     clear HO454
     clear BK442
     clear BK455
     clear HB
     have HO447 := n0_
     have HO451 := n1_
     have HO454 := n2_
     have BK442 := n3_
     have BK455 := n4_
     have HB := n5_
     clear n0_ n1_ n2_ n3_ n4_ n5_
     refine start_ (n := 20) (S := fun w' => w'.cell? ⟨gb442, 0, none⟩ = some (.int .i64 t435) ∧ w'.cell? ⟨gb442, 1, none⟩ = some (.int .i64 t436) ∧ w'.cell? ⟨gb442, 2, none⟩ = some (.int .i64 t437) ∧ w'.cell? ⟨gb442, 3, none⟩ = some (.int .i64 t438) ∧ w'.cell? ⟨gb442, 4, none⟩ = some (.int .i64 t439)) (ds := []) #[false, false, false, false, false, false, false, false, false, false, false, false, false, false, false, false, false, false, false, false] (by kernel_rfl) rfl rfl ⟨(blk_cell BK442.out 0).trans rfl, (blk_cell BK442.out 1).trans rfl, (blk_cell BK442.out 2).trans rfl, (blk_cell BK442.out 3).trans rfl, (blk_cell BK442.out 4).trans rfl⟩ (fun hHeld => ?_); refine with_tabW laws_FnRight.tab8 laws_FnRight.bits8 (fun HT_ HW_ => ?_)
     generalize w30.drew = w31 at HO447 HO451 HO454 BK442 BK455 HB hHeld ⊢
     refine pure_ (i := 0) (N := some 34) (v := ?_) (a' := ?_) #[true, false, false, false, false, false, false, false, false, false, false, false, false, false, false, false, false, false, false, false] rfl rfl (any_of HT_.out (by kernel_rfl)) (fun _ _ _ h => h) (Or.inl ⟨by rfl, ?_⟩) ?_ ?_
     rotate_left
     ·intro w'
      go_simp
      with_reducible rfl
     rotate_left
     ·simp only [pt_, pn_, sI_, s0_, s1_, i64_w, i32_w]
      rfl
     refine pure_ (i := 2) (N := some 36) (v := ?_) (a' := ?_) #[true, false, true, false, false, false, false, false, false, false, false, false, false, false, false, false, false, false, false, false] rfl rfl (any_of HT_.out (by kernel_rfl)) (fun _ _ _ h => h) (Or.inl ⟨by rfl, ?_⟩) ?_ ?_
     rotate_left
     ·intro w'
      go_simp
      with_reducible rfl
     rotate_left
     ·simp only [pt_, pn_, sI_, s0_, s1_, i64_w, i32_w]
      rfl
     refine pure_ (i := 3) (N := some 37) (v := ?_) (a' := ?_) #[true, false, true, true, false, false, false, false, false, false, false, false, false, false, false, false, false, false, false, false] rfl rfl (any_of HT_.out (by kernel_rfl)) (fun _ _ _ h => h) (Or.inl ⟨by rfl, ?_⟩) ?_ ?_
     rotate_left
     ·intro w'
      go_simp
      with_reducible rfl
     rotate_left
     ·simp only [pt_, pn_, sI_, s0_, s1_, i64_w, i32_w]
      rfl
     refine take_ (i := 1) (N := some 35) (v := ?_) (a' := ?_) #[true, true, true, true, false, false, false, false, false, false, false, false, false, false, false, false, false, false, false, false] rfl rfl (take_ofW HT_.out HW_.out (by kernel_rfl)) (fun _ _ _ h => h) (Or.inl ⟨by rfl, ?_⟩) hHeld ?_ ?_
     rotate_left
     ·rintro w' ⟨s0, s1, s2, s3, s4⟩
      go_simp
      with_reducible rfl
     rotate_left
     ·simp only [pt_, pn_, sI_, s0_, s1_, i64_w, i32_w]
      rfl
     refine one_ (i := 4) (N := some 38) #[true, true, true, true, true, false, false, false, false, false, false, false, false, false, false, false, false, false, false, false] rfl rfl (one_of HT_.out (by kernel_rfl)) (by decide) (fun K hK => ?_)
     refine goes_ Try.func48 (by kernel_rfl) rfl #[.agg #[.int .i64 t435, .int .i64 t436, .int .i64 t437, .int .i64 t438, .int .i64 t439], .int .i64 t440, .int .i64 t441] (by rfl) rfl rfl (by (try simp only [mT_, mC_, mN_]); first | done | rfl | (simp only [List.length_drop, List.length_take]; rfl)) ?_
     with_reducible refine (spec_InsOk.calls k t435 t436 t437 t438 t439 t440 t441 t456 _ A23.out).mono ?_
     rintro e w32 ⟨rfl, hb⟩
     refine ⟨_, rfl, ?_⟩
     have n0_ := aM_ (Kd.R_below (by (with_reducible repeat (first | apply Kd.R_alloc | apply Kd.R_drewN | apply Kd.R_drew)); exact HO447.out) hb)
     have n1_ := aM_ (Kd.R_below (by (with_reducible repeat (first | apply Kd.R_alloc | apply Kd.R_drewN | apply Kd.R_drew)); exact HO451.out) hb)
     have n2_ := aM_ (Kd.S_below (by (with_reducible repeat (first | apply Kd.S_alloc | apply Kd.S_drewN | apply Kd.S_drew)); exact HO454.out) hb)
     have n3_ := aM_ (blk_below (g := gb442) (o := .cells #[.int .i64 t435, .int .i64 t436, .int .i64 t437, .int .i64 t438, .int .i64 t439] 66 (0, 0)) (by (with_reducible repeat (first | refine blk_drewN ?_ _ | refine blk_drew ?_ | refine blk_alloc ?_ _)); exact BK442.out) hb)
     have n4_ := aM_ (blk_below (g := gb455) (o := .cells #[.slice Ao19 t449.length co19, .slice Ao22 t452.length co22] 53 (0, 0)) (by (with_reducible repeat (first | refine blk_drewN ?_ _ | refine blk_drew ?_ | refine blk_alloc ?_ _)); exact BK455.out) hb)
     have n5_ := aM_ (below_step (by repeat (first | (with_reducible first | exact HB.out | apply below_alloc | apply pw_below_drewN | apply below_drew1 | refine below_set ?_ GE442.out | refine below_set ?_ GE455.out) | exact HB.out)) hb)
     clear HO447
     clear HO451
     clear HO454
     clear BK442
     clear BK455
     clear HB
     have HO447 := n0_
     have HO451 := n1_
     have HO454 := n2_
     have BK442 := n3_
     have BK455 := n4_
     have HB := n5_
     clear n0_ n1_ n2_ n3_ n4_ n5_
     (try clear hb)
     (try clear hb2)
     (try clear hk)
     (try clear hi)
     refine hK.out _ _ ⟨(blk_cell BK442.out 0).trans rfl, (blk_cell BK442.out 1).trans rfl, (blk_cell BK442.out 2).trans rfl, (blk_cell BK442.out 3).trans rfl, (blk_cell BK442.out 4).trans rfl⟩ (fun hHeld => ?_)
     clear hK K
     refine norm_ (a' := ?_) ?_ ?_
     rotate_left
     ·show Act.put _ (some 38) _ = _
      simp only [pt_, pn_, sI_, s0_, s1_, i64_w, i32_w]
      rfl
     refine pure_ (i := 5) (N := some 39) (v := ?_) (a' := ?_) #[true, true, true, true, true, true, false, false, false, false, false, false, false, false, false, false, false, false, false, false] rfl rfl (any_of HT_.out (by kernel_rfl)) (fun _ _ _ h => h) (Or.inl ⟨by rfl, ?_⟩) ?_ ?_
     rotate_left
     ·intro w'
      go_simp
      with_reducible rfl
     rotate_left
     ·simp only [pt_, pn_, sI_, s0_, s1_, i64_w, i32_w]
      rfl
     refine pure_ (i := 6) (N := some 40) (v := ?_) (a' := ?_) #[true, true, true, true, true, true, true, false, false, false, false, false, false, false, false, false, false, false, false, false] rfl rfl (any_of HT_.out (by kernel_rfl)) (fun _ _ _ h => h) (Or.inl ⟨by rfl, ?_⟩) ?_ ?_
     rotate_left
     ·intro w'
      go_simp
      with_reducible rfl
     rotate_left
     ·simp only [pt_, pn_, sI_, s0_, s1_, i64_w, i32_w]
      rfl
     refine pure_ (i := 7) (N := some 41) (v := ?_) (a' := ?_) #[true, true, true, true, true, true, true, true, false, false, false, false, false, false, false, false, false, false, false, false] rfl rfl (any_of HT_.out (by kernel_rfl)) (fun _ _ _ h => h) (Or.inl ⟨by rfl, ?_⟩) ?_ ?_
     rotate_left
     ·intro w'
      go_simp
      with_reducible rfl
     rotate_left
     ·simp only [pt_, pn_, sI_, s0_, s1_, i64_w, i32_w]
      rfl
     refine pure_ (i := 8) (N := some 42) (v := ?_) (a' := ?_) #[true, true, true, true, true, true, true, true, true, false, false, false, false, false, false, false, false, false, false, false] rfl rfl (any_of HT_.out (by kernel_rfl)) (fun _ _ _ h => h) (Or.inl ⟨by rfl, ?_⟩) ?_ ?_
     rotate_left
     ·intro w'
      go_simp
      with_reducible rfl
     rotate_left
     ·simp only [pt_, pn_, sI_, s0_, s1_, i64_w, i32_w]
      rfl
     refine pure_ (i := 9) (N := some 43) (v := ?_) (a' := ?_) #[true, true, true, true, true, true, true, true, true, true, false, false, false, false, false, false, false, false, false, false] rfl rfl (any_of HT_.out (by kernel_rfl)) (fun _ _ _ h => h) (Or.inl ⟨by rfl, ?_⟩) ?_ ?_
     rotate_left
     ·intro w'
      go_simp
      with_reducible rfl
     rotate_left
     ·simp only [pt_, pn_, sI_, s0_, s1_, i64_w, i32_w]
      rfl
     refine one_ (i := 10) (N := some 44) #[true, true, true, true, true, true, true, true, true, true, true, false, false, false, false, false, false, false, false, false] rfl rfl (one_of HT_.out (by kernel_rfl)) (by decide) (fun K hK => ?_)
     refine goes_ Try.func49 (by kernel_rfl) rfl #[.slice Ao15 t444.length co15, .int .i64 t445] (by rfl) rfl rfl (by (try simp only [mT_, mC_, mN_]); first | done | rfl | (simp only [List.length_drop, List.length_take]; rfl)) ?_
     with_reducible refine (spec_BodyOk.calls k _ _ t444 t445 t457 _ ?side1 ?side2 A28.out).mono ?_
     (case side1 => repeat (first | exact (Kd.R_reads' HO447.out).2.2 | (with_reducible refine Kd.C_alloc ?_ _) | (with_reducible refine Kd.C_drewN ?_ _) | (with_reducible refine Kd.C_drew ?_)))
     (case side2 => exact (Kd.R_reads' HO447.out).2.1)
     rintro e w33 ⟨rfl, hb⟩
     refine ⟨_, rfl, ?_⟩
     have n0_ := aM_ (Kd.R_below (by (with_reducible repeat (first | apply Kd.R_alloc | apply Kd.R_drewN | apply Kd.R_drew)); exact HO447.out) hb)
     have n1_ := aM_ (Kd.R_below (by (with_reducible repeat (first | apply Kd.R_alloc | apply Kd.R_drewN | apply Kd.R_drew)); exact HO451.out) hb)
     have n2_ := aM_ (Kd.S_below (by (with_reducible repeat (first | apply Kd.S_alloc | apply Kd.S_drewN | apply Kd.S_drew)); exact HO454.out) hb)
     have n3_ := aM_ (blk_below (g := gb442) (o := .cells #[.int .i64 t435, .int .i64 t436, .int .i64 t437, .int .i64 t438, .int .i64 t439] 66 (0, 0)) (by (with_reducible repeat (first | refine blk_drewN ?_ _ | refine blk_drew ?_ | refine blk_alloc ?_ _)); exact BK442.out) hb)
     have n4_ := aM_ (blk_below (g := gb455) (o := .cells #[.slice Ao19 t449.length co19, .slice Ao22 t452.length co22] 53 (0, 0)) (by (with_reducible repeat (first | refine blk_drewN ?_ _ | refine blk_drew ?_ | refine blk_alloc ?_ _)); exact BK455.out) hb)
     have n5_ := aM_ (below_step (by repeat (first | (with_reducible first | exact HB.out | apply below_alloc | apply pw_below_drewN | apply below_drew1 | refine below_set ?_ GE442.out | refine below_set ?_ GE455.out) | exact HB.out)) hb)
     clear HO447
     clear HO451
     clear HO454
     clear BK442
     clear BK455
     clear HB
     have HO447 := n0_
     have HO451 := n1_
     have HO454 := n2_
     have BK442 := n3_
     have BK455 := n4_
     have HB := n5_
     clear n0_ n1_ n2_ n3_ n4_ n5_
     (try clear hb)
     (try clear hb2)
     (try clear hk)
     (try clear hi)
     refine hK.out _ _ ⟨(blk_cell BK442.out 0).trans rfl, (blk_cell BK442.out 1).trans rfl, (blk_cell BK442.out 2).trans rfl, (blk_cell BK442.out 3).trans rfl, (blk_cell BK442.out 4).trans rfl⟩ (fun hHeld => ?_)
     clear hK K
     refine norm_ (a' := ?_) ?_ ?_
     rotate_left
     ·show Act.put _ (some 44) _ = _
      simp only [pt_, pn_, sI_, s0_, s1_, i64_w, i32_w]
      rfl
     refine pure_ (i := 11) (N := some 45) (v := ?_) (a' := ?_) #[true, true, true, true, true, true, true, true, true, true, true, true, false, false, false, false, false, false, false, false] rfl rfl (any_of HT_.out (by kernel_rfl)) (fun _ _ _ h => h) (Or.inl ⟨by rfl, ?_⟩) ?_ ?_
     rotate_left
     ·intro w'
      go_simp
      with_reducible rfl
     rotate_left
     ·simp only [pt_, pn_, sI_, s0_, s1_, i64_w, i32_w]
      rfl
     refine pure_ (i := 12) (N := some 46) (v := ?_) (a' := ?_) #[true, true, true, true, true, true, true, true, true, true, true, true, true, false, false, false, false, false, false, false] rfl rfl (any_of HT_.out (by kernel_rfl)) (fun _ _ _ h => h) (Or.inl ⟨by rfl, ?_⟩) ?_ ?_
     rotate_left
     ·intro w'
      go_simp
      with_reducible rfl
     rotate_left
     ·simp only [pt_, pn_, sI_, s0_, s1_, i64_w, i32_w]
      rfl
     refine pure_ (i := 13) (N := some 47) (v := ?_) (a' := ?_) #[true, true, true, true, true, true, true, true, true, true, true, true, true, true, false, false, false, false, false, false] rfl rfl (any_of HT_.out (by kernel_rfl)) (fun _ _ _ h => h) (Or.inl ⟨by rfl, ?_⟩) ?_ ?_
     rotate_left
     ·intro w'
      go_simp
      with_reducible rfl
     rotate_left
     ·simp only [pt_, pn_, sI_, s0_, s1_, i64_w, i32_w]
      rfl
     refine pure_ (i := 14) (N := some 48) (v := undef) (a' := ?_) #[true, true, true, true, true, true, true, true, true, true, true, true, true, true, true, false, false, false, false, false] rfl rfl (any_of HT_.out (by kernel_rfl)) (fun _ _ _ h => h) (Or.inr ⟨by rfl, rfl⟩) ?_ ?_
     rotate_left
     ·simp only [pt_, pn_, sI_, s0_, s1_, i64_w, i32_w]
      rfl
     refine pure_ (i := 15) (N := some 49) (v := undef) (a' := ?_) #[true, true, true, true, true, true, true, true, true, true, true, true, true, true, true, true, false, false, false, false] rfl rfl (any_of HT_.out (by kernel_rfl)) (fun _ _ _ h => h) (Or.inr ⟨by rfl, rfl⟩) ?_ ?_
     rotate_left
     ·simp only [pt_, pn_, sI_, s0_, s1_, i64_w, i32_w]
      rfl
     refine pure_ (i := 16) (N := some 50) (v := undef) (a' := ?_) #[true, true, true, true, true, true, true, true, true, true, true, true, true, true, true, true, true, false, false, false] rfl rfl (any_of HT_.out (by kernel_rfl)) (fun _ _ _ h => h) (Or.inr ⟨by rfl, rfl⟩) ?_ ?_
     rotate_left
     ·simp only [pt_, pn_, sI_, s0_, s1_, i64_w, i32_w]
      rfl
     refine pure_ (i := 17) (N := some 51) (v := undef) (a' := ?_) #[true, true, true, true, true, true, true, true, true, true, true, true, true, true, true, true, true, true, false, false] rfl rfl (any_of HT_.out (by kernel_rfl)) (fun _ _ _ h => h) (Or.inr ⟨by rfl, rfl⟩) ?_ ?_
     rotate_left
     ·simp only [pt_, pn_, sI_, s0_, s1_, i64_w, i32_w]
      rfl
     refine pure_ (i := 18) (N := some 52) (v := undef) (a' := ?_) #[true, true, true, true, true, true, true, true, true, true, true, true, true, true, true, true, true, true, true, false] rfl rfl (any_of HT_.out (by kernel_rfl)) (fun _ _ _ h => h) (Or.inr ⟨by rfl, rfl⟩) ?_ ?_
     rotate_left
     ·simp only [pt_, pn_, sI_, s0_, s1_, i64_w, i32_w]
      rfl
     refine pure_ (i := 19) (N := some 53) (v := ?_) (a' := ?_) #[true, true, true, true, true, true, true, true, true, true, true, true, true, true, true, true, true, true, true, true] rfl rfl (any_of HT_.out (by kernel_rfl)) (fun _ _ _ h => h) (Or.inl ⟨by rfl, ?_⟩) ?_ ?_
     rotate_left
     ·intro w'
      go_simp
      with_reducible rfl
     rotate_left
     ·simp only [pt_, pn_, sI_, s0_, s1_, i64_w, i32_w]
      rfl
     refine done_ (done_of HT_.out (by kernel_rfl)) ?_
     try go_wp2
     go_meet
     case rel => exact ⟨_, (true), (by first | rfl | (simp; done) | (simp [*]; done)), H', ⟨by first | omega | exact Nat.le_refl _⟩, ⟨by (with_reducible repeat (first | apply Kd.R_alloc | apply Kd.R_drewN | apply Kd.R_drew)); exact HO447.out⟩, ⟨by (with_reducible repeat (first | apply Kd.R_alloc | apply Kd.R_drewN | apply Kd.R_drew)); exact HO451.out⟩, ⟨by (with_reducible repeat (first | apply Kd.S_alloc | apply Kd.S_drewN | apply Kd.S_drew)); exact HO454.out⟩, ⟨by (with_reducible repeat (first | refine blk_drewN ?_ _ | refine blk_drew ?_ | refine blk_alloc ?_ _)); exact BK442.out⟩, ⟨by (with_reducible repeat (first | refine blk_drewN ?_ _ | refine blk_drew ?_ | refine blk_alloc ?_ _)); exact BK455.out⟩, ⟨by repeat (first | (with_reducible first | exact HB.out | apply below_alloc | apply pw_below_drewN | apply below_drew1 | refine below_set ?_ GE442.out | refine below_set ?_ GE455.out) | exact HB.out)⟩⟩
    ·rw [if_neg c29] at H
     have c29b0 : (t448 != t457) = false := by simpa using c29
     (try (have c29b1 : decide (t448 = t457) = true := by simpa using c29))
     (try (have c29b2 : (t448 == t457) = true := by simpa using c29))
     clear c29
     replace H := Option.bind_eq_some_iff.mp H
     obtain ⟨t458, A340, H⟩ := H
     replace H : ((spec_ProgOk.f k t449 t452).bind fun t459 => (laws_FnRight.j0 k t440 t441 t443 t444 t445 t448 (t458 != t459) t435 t436 t437 t438 t439)) = some r := H
     have A34 := aM_ A340
     clear A340
     replace H := Option.bind_eq_some_iff.mp H
     obtain ⟨t459, A350, H⟩ := H
     replace H : (laws_FnRight.j0 k t440 t441 t443 t444 t445 t448 (t458 != t459) t435 t436 t437 t438 t439) = some r := H
     have A35 := aM_ A350
     clear A350
     have H' := aM_ H
     clear H
     try go_wp2
     have n0_ : Aside0 (Kd.R k66 66 ((w18.setCell ⟨gb455, 0, none⟩ (.slice Ao19 t449.length co19)).setCell ⟨gb455, 1, none⟩ (.slice Ao22 t452.length co22)) w.heap.size (fun k_ => k_ ≠ gb442) (.slice Ao15 t444.length co15) t444) := ⟨by (with_reducible repeat (first | apply Kd.R_alloc | apply Kd.R_drewN | apply Kd.R_drew)); exact Kd.R_mono (Kd.R_far (p := ⟨gb455, 1, none⟩) (Kd.R_far (p := ⟨gb455, 0, none⟩) (Kd.R_types HO447.out BK455.out (by decide)) (fun _ hk => hk.2) (.slice Ao19 t449.length co19)) (fun _ hk => hk.2) (.slice Ao22 t452.length co22)) (fun _ hk => hk.1.2)⟩
     have n1_ : Aside0 (Kd.R (Kd.int .i64) 3 ((w18.setCell ⟨gb455, 0, none⟩ (.slice Ao19 t449.length co19)).setCell ⟨gb455, 1, none⟩ (.slice Ao22 t452.length co22)) w.heap.size (fun _ => True) (.slice Ao19 t449.length co19) t449) := ⟨by (with_reducible repeat (first | apply Kd.R_alloc | apply Kd.R_drewN | apply Kd.R_drew)); exact Kd.R_mono (Kd.R_far (p := ⟨gb455, 1, none⟩) (Kd.R_far (p := ⟨gb455, 0, none⟩) (Kd.R_types HO451.out BK455.out (by decide)) (fun _ hk => hk.2) (.slice Ao19 t449.length co19)) (fun _ hk => hk.2) (.slice Ao22 t452.length co22)) (fun _ hk => trivial)⟩
     have n2_ : Aside0 (Kd.S (Kd.slice 66 k66) 70 ((w18.setCell ⟨gb455, 0, none⟩ (.slice Ao19 t449.length co19)).setCell ⟨gb455, 1, none⟩ (.slice Ao22 t452.length co22)) w.heap.size (fun k_ => some k_ ≠ (.slice Ao15 t444.length co15 : Value).ownBlock ∧ k_ ≠ gb442) (.slice Ao22 t452.length co22) t452) := ⟨by (with_reducible repeat (first | apply Kd.S_alloc | apply Kd.S_drewN | apply Kd.S_drew)); exact Kd.S_mono (Kd.S_far (p := ⟨gb455, 1, none⟩) (Kd.S_far (p := ⟨gb455, 0, none⟩) (Kd.S_types HO454.out BK455.out (by decide)) (fun _ hk => hk.2) (.slice Ao19 t449.length co19)) (fun _ hk => hk.2) (.slice Ao22 t452.length co22)) (fun _ hk => ⟨hk.1.1.2, hk.1.2⟩)⟩
     have n3_ : Aside0 (((w18.setCell ⟨gb455, 0, none⟩ (.slice Ao19 t449.length co19)).setCell ⟨gb455, 1, none⟩ (.slice Ao22 t452.length co22)).heap[gb442]? = some (.cells #[.int .i64 t435, .int .i64 t436, .int .i64 t437, .int .i64 t438, .int .i64 t439] 66 (0, 0))) := ⟨by (with_reducible repeat (first | refine blk_drewN ?_ _ | refine blk_drew ?_ | refine blk_alloc ?_ _)); refine blk_far ?_ NB442_455.out _; (with_reducible repeat (first | refine blk_drewN ?_ _ | refine blk_drew ?_ | refine blk_alloc ?_ _)); refine blk_far ?_ NB442_455.out _; (with_reducible repeat (first | refine blk_drewN ?_ _ | refine blk_drew ?_ | refine blk_alloc ?_ _)); exact BK442.out⟩
     have n4_ : Aside0 (((w18.setCell ⟨gb455, 0, none⟩ (.slice Ao19 t449.length co19)).setCell ⟨gb455, 1, none⟩ (.slice Ao22 t452.length co22)).heap[gb455]? = some (.cells #[.slice Ao19 t449.length co19, .slice Ao22 t452.length co22] 53 (0, 0))) := ⟨by (with_reducible repeat (first | refine blk_drewN ?_ _ | refine blk_drew ?_ | refine blk_alloc ?_ _)); refine blk_put (cs := #[.slice Ao19 t449.length co19, .slice none 0 0]) ?_ 1 _ rfl; (with_reducible repeat (first | refine blk_drewN ?_ _ | refine blk_drew ?_ | refine blk_alloc ?_ _)); refine blk_put (cs := #[.slice none 0 0, .slice none 0 0]) ?_ 0 _ rfl; (with_reducible repeat (first | refine blk_drewN ?_ _ | refine blk_drew ?_ | refine blk_alloc ?_ _)); exact BK455.out⟩
     have n5_ : Aside0 (Below w.heap.size w ((w18.setCell ⟨gb455, 0, none⟩ (.slice Ao19 t449.length co19)).setCell ⟨gb455, 1, none⟩ (.slice Ao22 t452.length co22))) := ⟨by repeat (first | (with_reducible first | exact HB.out | apply below_alloc | apply pw_below_drewN | apply below_drew1 | refine below_set ?_ GE442.out | refine below_set ?_ GE455.out) | exact HB.out)⟩
     (try clear HO447)
     (try clear HO451)
     (try clear HO454)
     (try clear BK442)
     (try clear BK455)
     (try clear HB)
     generalize ((w18.setCell ⟨gb455, 0, none⟩ (.slice Ao19 t449.length co19)).setCell ⟨gb455, 1, none⟩ (.slice Ao22 t452.length co22)) = w36 at n0_ n1_ n2_ n3_ n4_ n5_ ⊢
     have HO447 := n0_
     have HO451 := n1_
     have HO454 := n2_
     have BK442 := n3_
     have BK455 := n4_
     have HB := n5_
     clear n0_ n1_ n2_ n3_ n4_ n5_
     have n0_ := aM_ (Kd.R_drew HO447.out)
     have n1_ := aM_ (Kd.R_drew HO451.out)
     have n2_ := aM_ (Kd.S_drew HO454.out)
     have n3_ := aM_ (blk_drew BK442.out)
     have n4_ := aM_ (blk_drew BK455.out)
     have n5_ := aM_ (below_drew1 HB.out)
     clear HO447
     clear HO451
     clear HO454
     clear BK442
     clear BK455
     clear HB
     have HO447 := n0_
     have HO451 := n1_
     have HO454 := n2_
     have BK442 := n3_
     have BK455 := n4_
     have HB := n5_
     clear n0_ n1_ n2_ n3_ n4_ n5_
     refine start_ (n := 20) (S := fun w' => w'.cell? ⟨gb442, 0, none⟩ = some (.int .i64 t435) ∧ w'.cell? ⟨gb442, 1, none⟩ = some (.int .i64 t436) ∧ w'.cell? ⟨gb442, 2, none⟩ = some (.int .i64 t437) ∧ w'.cell? ⟨gb442, 3, none⟩ = some (.int .i64 t438) ∧ w'.cell? ⟨gb442, 4, none⟩ = some (.int .i64 t439) ∧ w'.cell? ⟨gb455, 0, none⟩ = some (.slice Ao19 t449.length co19) ∧ w'.cell? ⟨gb455, 1, none⟩ = some (.slice Ao22 t452.length co22)) (ds := []) #[false, false, false, false, false, false, false, false, false, false, false, false, false, false, false, false, false, false, false, false] (by kernel_rfl) rfl rfl ⟨(blk_cell BK442.out 0).trans rfl, (blk_cell BK442.out 1).trans rfl, (blk_cell BK442.out 2).trans rfl, (blk_cell BK442.out 3).trans rfl, (blk_cell BK442.out 4).trans rfl, (blk_cell BK455.out 0).trans rfl, (blk_cell BK455.out 1).trans rfl⟩ (fun hHeld => ?_); refine with_tabW laws_FnRight.tab8 laws_FnRight.bits8 (fun HT_ HW_ => ?_)
     generalize w36.drew = w37 at HO447 HO451 HO454 BK442 BK455 HB hHeld ⊢
     refine pure_ (i := 0) (N := some 34) (v := ?_) (a' := ?_) #[true, false, false, false, false, false, false, false, false, false, false, false, false, false, false, false, false, false, false, false] rfl rfl (any_of HT_.out (by kernel_rfl)) (fun _ _ _ h => h) (Or.inl ⟨by rfl, ?_⟩) ?_ ?_
     rotate_left
     ·intro w'
      go_simp
      with_reducible rfl
     rotate_left
     ·simp only [pt_, pn_, sI_, s0_, s1_, i64_w, i32_w]
      rfl
     refine pure_ (i := 2) (N := some 36) (v := ?_) (a' := ?_) #[true, false, true, false, false, false, false, false, false, false, false, false, false, false, false, false, false, false, false, false] rfl rfl (any_of HT_.out (by kernel_rfl)) (fun _ _ _ h => h) (Or.inl ⟨by rfl, ?_⟩) ?_ ?_
     rotate_left
     ·intro w'
      go_simp
      with_reducible rfl
     rotate_left
     ·simp only [pt_, pn_, sI_, s0_, s1_, i64_w, i32_w]
      rfl
     refine pure_ (i := 3) (N := some 37) (v := ?_) (a' := ?_) #[true, false, true, true, false, false, false, false, false, false, false, false, false, false, false, false, false, false, false, false] rfl rfl (any_of HT_.out (by kernel_rfl)) (fun _ _ _ h => h) (Or.inl ⟨by rfl, ?_⟩) ?_ ?_
     rotate_left
     ·intro w'
      go_simp
      with_reducible rfl
     rotate_left
     ·simp only [pt_, pn_, sI_, s0_, s1_, i64_w, i32_w]
      rfl
     refine take_ (i := 1) (N := some 35) (v := ?_) (a' := ?_) #[true, true, true, true, false, false, false, false, false, false, false, false, false, false, false, false, false, false, false, false] rfl rfl (take_ofW HT_.out HW_.out (by kernel_rfl)) (fun _ _ _ h => h) (Or.inl ⟨by rfl, ?_⟩) hHeld ?_ ?_
     rotate_left
     ·rintro w' ⟨s0, s1, s2, s3, s4, s5, s6⟩
      go_simp
      with_reducible rfl
     rotate_left
     ·simp only [pt_, pn_, sI_, s0_, s1_, i64_w, i32_w]
      rfl
     refine one_ (i := 4) (N := some 38) #[true, true, true, true, true, false, false, false, false, false, false, false, false, false, false, false, false, false, false, false] rfl rfl (one_of HT_.out (by kernel_rfl)) (by decide) (fun K hK => ?_)
     refine goes_ Try.func48 (by kernel_rfl) rfl #[.agg #[.int .i64 t435, .int .i64 t436, .int .i64 t437, .int .i64 t438, .int .i64 t439], .int .i64 t440, .int .i64 t441] (by rfl) rfl rfl (by (try simp only [mT_, mC_, mN_]); first | done | rfl | (simp only [List.length_drop, List.length_take]; rfl)) ?_
     with_reducible refine (spec_InsOk.calls k t435 t436 t437 t438 t439 t440 t441 t456 _ A23.out).mono ?_
     rintro e w38 ⟨rfl, hb⟩
     refine ⟨_, rfl, ?_⟩
     have n0_ := aM_ (Kd.R_below (by (with_reducible repeat (first | apply Kd.R_alloc | apply Kd.R_drewN | apply Kd.R_drew)); exact HO447.out) hb)
     have n1_ := aM_ (Kd.R_below (by (with_reducible repeat (first | apply Kd.R_alloc | apply Kd.R_drewN | apply Kd.R_drew)); exact HO451.out) hb)
     have n2_ := aM_ (Kd.S_below (by (with_reducible repeat (first | apply Kd.S_alloc | apply Kd.S_drewN | apply Kd.S_drew)); exact HO454.out) hb)
     have n3_ := aM_ (blk_below (g := gb442) (o := .cells #[.int .i64 t435, .int .i64 t436, .int .i64 t437, .int .i64 t438, .int .i64 t439] 66 (0, 0)) (by (with_reducible repeat (first | refine blk_drewN ?_ _ | refine blk_drew ?_ | refine blk_alloc ?_ _)); exact BK442.out) hb)
     have n4_ := aM_ (blk_below (g := gb455) (o := .cells #[.slice Ao19 t449.length co19, .slice Ao22 t452.length co22] 53 (0, 0)) (by (with_reducible repeat (first | refine blk_drewN ?_ _ | refine blk_drew ?_ | refine blk_alloc ?_ _)); exact BK455.out) hb)
     have n5_ := aM_ (below_step (by repeat (first | (with_reducible first | exact HB.out | apply below_alloc | apply pw_below_drewN | apply below_drew1 | refine below_set ?_ GE442.out | refine below_set ?_ GE455.out) | exact HB.out)) hb)
     clear HO447
     clear HO451
     clear HO454
     clear BK442
     clear BK455
     clear HB
     have HO447 := n0_
     have HO451 := n1_
     have HO454 := n2_
     have BK442 := n3_
     have BK455 := n4_
     have HB := n5_
     clear n0_ n1_ n2_ n3_ n4_ n5_
     (try clear hb)
     (try clear hb2)
     (try clear hk)
     (try clear hi)
     refine hK.out _ _ ⟨(blk_cell BK442.out 0).trans rfl, (blk_cell BK442.out 1).trans rfl, (blk_cell BK442.out 2).trans rfl, (blk_cell BK442.out 3).trans rfl, (blk_cell BK442.out 4).trans rfl, (blk_cell BK455.out 0).trans rfl, (blk_cell BK455.out 1).trans rfl⟩ (fun hHeld => ?_)
     clear hK K
     refine norm_ (a' := ?_) ?_ ?_
     rotate_left
     ·show Act.put _ (some 38) _ = _
      simp only [pt_, pn_, sI_, s0_, s1_, i64_w, i32_w]
      rfl
     refine pure_ (i := 5) (N := some 39) (v := ?_) (a' := ?_) #[true, true, true, true, true, true, false, false, false, false, false, false, false, false, false, false, false, false, false, false] rfl rfl (any_of HT_.out (by kernel_rfl)) (fun _ _ _ h => h) (Or.inl ⟨by rfl, ?_⟩) ?_ ?_
     rotate_left
     ·intro w'
      go_simp
      with_reducible rfl
     rotate_left
     ·simp only [pt_, pn_, sI_, s0_, s1_, i64_w, i32_w]
      rfl
     refine pure_ (i := 6) (N := some 40) (v := ?_) (a' := ?_) #[true, true, true, true, true, true, true, false, false, false, false, false, false, false, false, false, false, false, false, false] rfl rfl (any_of HT_.out (by kernel_rfl)) (fun _ _ _ h => h) (Or.inl ⟨by rfl, ?_⟩) ?_ ?_
     rotate_left
     ·intro w'
      go_simp
      with_reducible rfl
     rotate_left
     ·simp only [pt_, pn_, sI_, s0_, s1_, i64_w, i32_w]
      rfl
     refine pure_ (i := 7) (N := some 41) (v := ?_) (a' := ?_) #[true, true, true, true, true, true, true, true, false, false, false, false, false, false, false, false, false, false, false, false] rfl rfl (any_of HT_.out (by kernel_rfl)) (fun _ _ _ h => h) (Or.inl ⟨by rfl, ?_⟩) ?_ ?_
     rotate_left
     ·intro w'
      go_simp
      with_reducible rfl
     rotate_left
     ·simp only [pt_, pn_, sI_, s0_, s1_, i64_w, i32_w]
      rfl
     refine pure_ (i := 8) (N := some 42) (v := ?_) (a' := ?_) #[true, true, true, true, true, true, true, true, true, false, false, false, false, false, false, false, false, false, false, false] rfl rfl (any_of HT_.out (by kernel_rfl)) (fun _ _ _ h => h) (Or.inl ⟨by rfl, ?_⟩) ?_ ?_
     rotate_left
     ·intro w'
      go_simp
      with_reducible rfl
     rotate_left
     ·simp only [pt_, pn_, sI_, s0_, s1_, i64_w, i32_w]
      rfl
     refine pure_ (i := 9) (N := some 43) (v := ?_) (a' := ?_) #[true, true, true, true, true, true, true, true, true, true, false, false, false, false, false, false, false, false, false, false] rfl rfl (any_of HT_.out (by kernel_rfl)) (fun _ _ _ h => h) (Or.inl ⟨by rfl, ?_⟩) ?_ ?_
     rotate_left
     ·intro w'
      go_simp
      with_reducible rfl
     rotate_left
     ·simp only [pt_, pn_, sI_, s0_, s1_, i64_w, i32_w]
      rfl
     refine one_ (i := 10) (N := some 44) #[true, true, true, true, true, true, true, true, true, true, true, false, false, false, false, false, false, false, false, false] rfl rfl (one_of HT_.out (by kernel_rfl)) (by decide) (fun K hK => ?_)
     refine goes_ Try.func49 (by kernel_rfl) rfl #[.slice Ao15 t444.length co15, .int .i64 t445] (by rfl) rfl rfl (by (try simp only [mT_, mC_, mN_]); first | done | rfl | (simp only [List.length_drop, List.length_take]; rfl)) ?_
     with_reducible refine (spec_BodyOk.calls k _ _ t444 t445 t457 _ ?side1 ?side2 A28.out).mono ?_
     (case side1 => repeat (first | exact (Kd.R_reads' HO447.out).2.2 | (with_reducible refine Kd.C_alloc ?_ _) | (with_reducible refine Kd.C_drewN ?_ _) | (with_reducible refine Kd.C_drew ?_)))
     (case side2 => exact (Kd.R_reads' HO447.out).2.1)
     rintro e w39 ⟨rfl, hb⟩
     refine ⟨_, rfl, ?_⟩
     have n0_ := aM_ (Kd.R_below (by (with_reducible repeat (first | apply Kd.R_alloc | apply Kd.R_drewN | apply Kd.R_drew)); exact HO447.out) hb)
     have n1_ := aM_ (Kd.R_below (by (with_reducible repeat (first | apply Kd.R_alloc | apply Kd.R_drewN | apply Kd.R_drew)); exact HO451.out) hb)
     have n2_ := aM_ (Kd.S_below (by (with_reducible repeat (first | apply Kd.S_alloc | apply Kd.S_drewN | apply Kd.S_drew)); exact HO454.out) hb)
     have n3_ := aM_ (blk_below (g := gb442) (o := .cells #[.int .i64 t435, .int .i64 t436, .int .i64 t437, .int .i64 t438, .int .i64 t439] 66 (0, 0)) (by (with_reducible repeat (first | refine blk_drewN ?_ _ | refine blk_drew ?_ | refine blk_alloc ?_ _)); exact BK442.out) hb)
     have n4_ := aM_ (blk_below (g := gb455) (o := .cells #[.slice Ao19 t449.length co19, .slice Ao22 t452.length co22] 53 (0, 0)) (by (with_reducible repeat (first | refine blk_drewN ?_ _ | refine blk_drew ?_ | refine blk_alloc ?_ _)); exact BK455.out) hb)
     have n5_ := aM_ (below_step (by repeat (first | (with_reducible first | exact HB.out | apply below_alloc | apply pw_below_drewN | apply below_drew1 | refine below_set ?_ GE442.out | refine below_set ?_ GE455.out) | exact HB.out)) hb)
     clear HO447
     clear HO451
     clear HO454
     clear BK442
     clear BK455
     clear HB
     have HO447 := n0_
     have HO451 := n1_
     have HO454 := n2_
     have BK442 := n3_
     have BK455 := n4_
     have HB := n5_
     clear n0_ n1_ n2_ n3_ n4_ n5_
     (try clear hb)
     (try clear hb2)
     (try clear hk)
     (try clear hi)
     refine hK.out _ _ ⟨(blk_cell BK442.out 0).trans rfl, (blk_cell BK442.out 1).trans rfl, (blk_cell BK442.out 2).trans rfl, (blk_cell BK442.out 3).trans rfl, (blk_cell BK442.out 4).trans rfl, (blk_cell BK455.out 0).trans rfl, (blk_cell BK455.out 1).trans rfl⟩ (fun hHeld => ?_)
     clear hK K
     refine norm_ (a' := ?_) ?_ ?_
     rotate_left
     ·show Act.put _ (some 44) _ = _
      simp only [pt_, pn_, sI_, s0_, s1_, i64_w, i32_w]
      rfl
     refine pure_ (i := 11) (N := some 45) (v := ?_) (a' := ?_) #[true, true, true, true, true, true, true, true, true, true, true, true, false, false, false, false, false, false, false, false] rfl rfl (any_of HT_.out (by kernel_rfl)) (fun _ _ _ h => h) (Or.inl ⟨by rfl, ?_⟩) ?_ ?_
     rotate_left
     ·intro w'
      go_simp
      with_reducible rfl
     rotate_left
     ·simp only [pt_, pn_, sI_, s0_, s1_, i64_w, i32_w]
      rfl
     refine pure_ (i := 12) (N := some 46) (v := ?_) (a' := ?_) #[true, true, true, true, true, true, true, true, true, true, true, true, true, false, false, false, false, false, false, false] rfl rfl (any_of HT_.out (by kernel_rfl)) (fun _ _ _ h => h) (Or.inl ⟨by rfl, ?_⟩) ?_ ?_
     rotate_left
     ·intro w'
      go_simp
      with_reducible rfl
     rotate_left
     ·simp only [pt_, pn_, sI_, s0_, s1_, i64_w, i32_w]
      rfl
     refine pure_ (i := 13) (N := some 47) (v := ?_) (a' := ?_) #[true, true, true, true, true, true, true, true, true, true, true, true, true, true, false, false, false, false, false, false] rfl rfl (any_of HT_.out (by kernel_rfl)) (fun _ _ _ h => h) (Or.inl ⟨by rfl, ?_⟩) ?_ ?_
     rotate_left
     ·intro w'
      go_simp
      with_reducible rfl
     rotate_left
     ·simp only [pt_, pn_, sI_, s0_, s1_, i64_w, i32_w]
      rfl
     refine take_ (i := 14) (N := some 48) (v := ?_) (a' := ?_) #[true, true, true, true, true, true, true, true, true, true, true, true, true, true, true, false, false, false, false, false] rfl rfl (take_ofW HT_.out HW_.out (by kernel_rfl)) (fun _ _ _ h => h) (Or.inl ⟨by rfl, ?_⟩) hHeld ?_ ?_
     rotate_left
     ·rintro w' ⟨s0, s1, s2, s3, s4, s5, s6⟩
      go_simp
      with_reducible rfl
     rotate_left
     ·simp only [pt_, pn_, sI_, s0_, s1_, i64_w, i32_w]
      rfl
     refine take_ (i := 16) (N := some 50) (v := ?_) (a' := ?_) #[true, true, true, true, true, true, true, true, true, true, true, true, true, true, true, false, true, false, false, false] rfl rfl (take_ofW HT_.out HW_.out (by kernel_rfl)) (fun _ _ _ h => h) (Or.inl ⟨by rfl, ?_⟩) hHeld ?_ ?_
     rotate_left
     ·rintro w' ⟨s0, s1, s2, s3, s4, s5, s6⟩
      go_simp
      with_reducible rfl
     rotate_left
     ·simp only [pt_, pn_, sI_, s0_, s1_, i64_w, i32_w]
      rfl
     refine one_ (i := 15) (N := some 49) #[true, true, true, true, true, true, true, true, true, true, true, true, true, true, true, true, true, false, false, false] rfl rfl (one_of HT_.out (by kernel_rfl)) (by decide) (fun K hK => ?_)
     refine goes_ Try.func32 (by kernel_rfl) rfl #[.agg #[.slice Ao19 t449.length co19, .slice Ao22 t452.length co22]] (by rfl) rfl rfl (by (try simp only [mT_, mC_, mN_]); first | done | rfl | (simp only [List.length_drop, List.length_take]; rfl)) ?_
     with_reducible refine (impl_ProgOk.calls k _ _ t449 _ _ t452 t458 _ ?side1 ?side2 ?side3 ?side4 A34.out).mono ?_
     (case side1 => repeat (first | exact (Kd.R_reads' HO451.out).2.2 | (with_reducible refine Kd.C_alloc ?_ _) | (with_reducible refine Kd.C_drewN ?_ _) | (with_reducible refine Kd.C_drew ?_)))
     (case side2 => exact (Kd.R_reads' HO451.out).2.1)
     (case side3 => repeat (first | exact (Kd.S_reads' HO454.out).2.2 | (with_reducible refine Kd.C_alloc ?_ _) | (with_reducible refine Kd.C_drewN ?_ _) | (with_reducible refine Kd.C_drew ?_)))
     (case side4 => exact (Kd.S_reads' HO454.out).2.1)
     rintro e w40 ⟨rfl, hb⟩
     refine ⟨_, rfl, ?_⟩
     have n0_ := aM_ (Kd.R_below (by (with_reducible repeat (first | apply Kd.R_alloc | apply Kd.R_drewN | apply Kd.R_drew)); exact HO447.out) hb)
     have n1_ := aM_ (Kd.R_below (by (with_reducible repeat (first | apply Kd.R_alloc | apply Kd.R_drewN | apply Kd.R_drew)); exact HO451.out) hb)
     have n2_ := aM_ (Kd.S_below (by (with_reducible repeat (first | apply Kd.S_alloc | apply Kd.S_drewN | apply Kd.S_drew)); exact HO454.out) hb)
     have n3_ := aM_ (blk_below (g := gb442) (o := .cells #[.int .i64 t435, .int .i64 t436, .int .i64 t437, .int .i64 t438, .int .i64 t439] 66 (0, 0)) (by (with_reducible repeat (first | refine blk_drewN ?_ _ | refine blk_drew ?_ | refine blk_alloc ?_ _)); exact BK442.out) hb)
     have n4_ := aM_ (blk_below (g := gb455) (o := .cells #[.slice Ao19 t449.length co19, .slice Ao22 t452.length co22] 53 (0, 0)) (by (with_reducible repeat (first | refine blk_drewN ?_ _ | refine blk_drew ?_ | refine blk_alloc ?_ _)); exact BK455.out) hb)
     have n5_ := aM_ (below_step (by repeat (first | (with_reducible first | exact HB.out | apply below_alloc | apply pw_below_drewN | apply below_drew1 | refine below_set ?_ GE442.out | refine below_set ?_ GE455.out) | exact HB.out)) hb)
     clear HO447
     clear HO451
     clear HO454
     clear BK442
     clear BK455
     clear HB
     have HO447 := n0_
     have HO451 := n1_
     have HO454 := n2_
     have BK442 := n3_
     have BK455 := n4_
     have HB := n5_
     clear n0_ n1_ n2_ n3_ n4_ n5_
     (try clear hb)
     (try clear hb2)
     (try clear hk)
     (try clear hi)
     refine hK.out _ _ ⟨(blk_cell BK442.out 0).trans rfl, (blk_cell BK442.out 1).trans rfl, (blk_cell BK442.out 2).trans rfl, (blk_cell BK442.out 3).trans rfl, (blk_cell BK442.out 4).trans rfl, (blk_cell BK455.out 0).trans rfl, (blk_cell BK455.out 1).trans rfl⟩ (fun hHeld => ?_)
     clear hK K
     refine norm_ (a' := ?_) ?_ ?_
     rotate_left
     ·show Act.put _ (some 49) _ = _
      simp only [pt_, pn_, sI_, s0_, s1_, i64_w, i32_w]
      rfl
     refine one_ (i := 17) (N := some 51) #[true, true, true, true, true, true, true, true, true, true, true, true, true, true, true, true, true, true, false, false] rfl rfl (one_of HT_.out (by kernel_rfl)) (by decide) (fun K hK => ?_)
     refine goes_ Try.func30 (by kernel_rfl) rfl #[.agg #[.slice Ao19 t449.length co19, .slice Ao22 t452.length co22]] (by rfl) rfl rfl (by (try simp only [mT_, mC_, mN_]); first | done | rfl | (simp only [List.length_drop, List.length_take]; rfl)) ?_
     with_reducible refine (spec_ProgOk.calls k _ _ t449 _ _ t452 t459 _ ?side1 ?side2 ?side3 ?side4 A35.out).mono ?_
     (case side1 => repeat (first | exact (Kd.R_reads' HO451.out).2.2 | (with_reducible refine Kd.C_alloc ?_ _) | (with_reducible refine Kd.C_drewN ?_ _) | (with_reducible refine Kd.C_drew ?_)))
     (case side2 => exact (Kd.R_reads' HO451.out).2.1)
     (case side3 => repeat (first | exact (Kd.S_reads' HO454.out).2.2 | (with_reducible refine Kd.C_alloc ?_ _) | (with_reducible refine Kd.C_drewN ?_ _) | (with_reducible refine Kd.C_drew ?_)))
     (case side4 => exact (Kd.S_reads' HO454.out).2.1)
     rintro e w41 ⟨rfl, hb⟩
     refine ⟨_, rfl, ?_⟩
     have n0_ := aM_ (Kd.R_below (by (with_reducible repeat (first | apply Kd.R_alloc | apply Kd.R_drewN | apply Kd.R_drew)); exact HO447.out) hb)
     have n1_ := aM_ (Kd.R_below (by (with_reducible repeat (first | apply Kd.R_alloc | apply Kd.R_drewN | apply Kd.R_drew)); exact HO451.out) hb)
     have n2_ := aM_ (Kd.S_below (by (with_reducible repeat (first | apply Kd.S_alloc | apply Kd.S_drewN | apply Kd.S_drew)); exact HO454.out) hb)
     have n3_ := aM_ (blk_below (g := gb442) (o := .cells #[.int .i64 t435, .int .i64 t436, .int .i64 t437, .int .i64 t438, .int .i64 t439] 66 (0, 0)) (by (with_reducible repeat (first | refine blk_drewN ?_ _ | refine blk_drew ?_ | refine blk_alloc ?_ _)); exact BK442.out) hb)
     have n4_ := aM_ (blk_below (g := gb455) (o := .cells #[.slice Ao19 t449.length co19, .slice Ao22 t452.length co22] 53 (0, 0)) (by (with_reducible repeat (first | refine blk_drewN ?_ _ | refine blk_drew ?_ | refine blk_alloc ?_ _)); exact BK455.out) hb)
     have n5_ := aM_ (below_step (by repeat (first | (with_reducible first | exact HB.out | apply below_alloc | apply pw_below_drewN | apply below_drew1 | refine below_set ?_ GE442.out | refine below_set ?_ GE455.out) | exact HB.out)) hb)
     clear HO447
     clear HO451
     clear HO454
     clear BK442
     clear BK455
     clear HB
     have HO447 := n0_
     have HO451 := n1_
     have HO454 := n2_
     have BK442 := n3_
     have BK455 := n4_
     have HB := n5_
     clear n0_ n1_ n2_ n3_ n4_ n5_
     (try clear hb)
     (try clear hb2)
     (try clear hk)
     (try clear hi)
     refine hK.out _ _ ⟨(blk_cell BK442.out 0).trans rfl, (blk_cell BK442.out 1).trans rfl, (blk_cell BK442.out 2).trans rfl, (blk_cell BK442.out 3).trans rfl, (blk_cell BK442.out 4).trans rfl, (blk_cell BK455.out 0).trans rfl, (blk_cell BK455.out 1).trans rfl⟩ (fun hHeld => ?_)
     clear hK K
     refine norm_ (a' := ?_) ?_ ?_
     rotate_left
     ·show Act.put _ (some 51) _ = _
      simp only [pt_, pn_, sI_, s0_, s1_, i64_w, i32_w]
      rfl
     refine pure_ (i := 18) (N := some 52) (v := ?_) (a' := ?_) #[true, true, true, true, true, true, true, true, true, true, true, true, true, true, true, true, true, true, true, false] rfl rfl (any_of HT_.out (by kernel_rfl)) (fun _ _ _ h => h) (Or.inl ⟨by rfl, ?_⟩) ?_ ?_
     rotate_left
     ·intro w'
      go_simp
      with_reducible rfl
     rotate_left
     ·simp only [pt_, pn_, sI_, s0_, s1_, i64_w, i32_w]
      rfl
     refine pure_ (i := 19) (N := some 53) (v := ?_) (a' := ?_) #[true, true, true, true, true, true, true, true, true, true, true, true, true, true, true, true, true, true, true, true] rfl rfl (any_of HT_.out (by kernel_rfl)) (fun _ _ _ h => h) (Or.inl ⟨by rfl, ?_⟩) ?_ ?_
     rotate_left
     ·intro w'
      go_simp
      with_reducible rfl
     rotate_left
     ·simp only [pt_, pn_, sI_, s0_, s1_, i64_w, i32_w]
      rfl
     refine done_ (done_of HT_.out (by kernel_rfl)) ?_
     try go_wp2
     go_meet
     case rel => exact ⟨_, ((t458 != t459)), (by first | rfl | (simp; done) | (simp [*]; done)), H', ⟨by first | omega | exact Nat.le_refl _⟩, ⟨by (with_reducible repeat (first | apply Kd.R_alloc | apply Kd.R_drewN | apply Kd.R_drew)); exact HO447.out⟩, ⟨by (with_reducible repeat (first | apply Kd.R_alloc | apply Kd.R_drewN | apply Kd.R_drew)); exact HO451.out⟩, ⟨by (with_reducible repeat (first | apply Kd.S_alloc | apply Kd.S_drewN | apply Kd.S_drew)); exact HO454.out⟩, ⟨by (with_reducible repeat (first | refine blk_drewN ?_ _ | refine blk_drew ?_ | refine blk_alloc ?_ _)); exact BK442.out⟩, ⟨by (with_reducible repeat (first | refine blk_drewN ?_ _ | refine blk_drew ?_ | refine blk_alloc ?_ _)); exact BK455.out⟩, ⟨by repeat (first | (with_reducible first | exact HB.out | apply below_alloc | apply pw_below_drewN | apply below_drew1 | refine below_set ?_ GE442.out | refine below_set ?_ GE455.out) | exact HB.out)⟩⟩
  case rest =>
   clear HC9
   try clear c2
   try clear p2
   try clear c3
   try clear c4
   try clear c24
   try clear c24b0
   try clear c29
   try clear c29b0
   try clear c29b1
   try clear c29b2
   try clear c30
   try clear c32
   obtain ⟨kq, x53_8, rfl, HA, HJ8, HO_7, HO_456000, HO_456001, BK442, BK455, HB⟩ := hcut
   cases kq with
   | zero => exact absurd HA.out (by simp [laws_FnRight.j0])
   | succ kj8 =>
    have H := HA.out
    clear HA
    simp only [laws_FnRight.j0] at H
    by_cases c42 : x53_8 = true
    ·subst c42
     have H1 : (some false) = some r := by rw [if_pos rfl] at H; exact H
     clear H
     have H := H1
     clear H1
     obtain rfl := Option.some.inj H
     go_wp2
     go_ret
     exact ⟨by first | rfl | (simp [errW_none, errW_some] <;> rfl) | (simp [*, errW_none, errW_some] <;> rfl), by repeat (first | (with_reducible first | exact HB.out | apply below_alloc | apply pw_below_drewN | apply below_drew1 | refine below_set ?_ GE442.out | refine below_set ?_ GE455.out) | exact HB.out)⟩
    ·replace c42 := Bool.eq_false_iff.mpr c42
     subst c42
     have H1 : (if t443 = true then ((impl_InsOk.f kj8 t435 t436 t437 t438 t439 (wrap64 (t440 + 1)) t441).bind fun t460 => (if t460 = true then (if t441 < 3 then ((impl_InsOk.f kj8 t435 t436 t437 t438 t439 t440 (wrap64 (t441 + 1))).bind fun t461 => (laws_FnRight.j1 kj8 t444 t445 t448 (!t461))) else (laws_FnRight.j1 kj8 t444 t445 t448 false)) else (laws_FnRight.j1 kj8 t444 t445 t448 true))) else (laws_FnRight.j1 kj8 t444 t445 t448 false)) = some r := by rw [if_neg (show ¬ (false = true) by decide)] at H; exact H
     clear H
     have H := H1
     clear H1
     have HC43 := aM_ H
     clear H
     go_upto_region 10 with (fail)
     go_cut [74] (fun v74 wc => ∃ (kq : Nat) (x74_42 : Bool), v74 = .bool x74_42 ∧ Aside0 (laws_FnRight.j1 kq t444 t445 t448 x74_42 = some r) ∧ Aside0 (kq ≤ kj8) ∧ Aside0 (Kd.R k66 66 wc w.heap.size (fun k_ => k_ ≠ gb442) (.slice Ao15 t444.length co15) t444) ∧ Aside0 (Kd.R (Kd.int .i64) 3 wc w.heap.size (fun _ => True) (.slice Ao19 t449.length co19) t449) ∧ Aside0 (Kd.S (Kd.slice 66 k66) 70 wc w.heap.size (fun k_ => some k_ ≠ ((.slice Ao15 t444.length co15) : Value).ownBlock ∧ k_ ≠ gb442) (.slice Ao22 t452.length co22) t452) ∧ Aside0 (wc.heap[gb442]? = some (.cells #[.int .i64 t435, .int .i64 t436, .int .i64 t437, .int .i64 t438, .int .i64 t439] 66 (0, 0))) ∧ Aside0 (wc.heap[gb455]? = some (.cells #[(.slice Ao19 t449.length co19), (.slice Ao22 t452.length co22)] 53 (0, 0))) ∧ Aside0 (Below w.heap.size w wc))
     case first =>
      have H := HC43.out
      clear HC43
      by_cases c44 : t443 = true
      ·subst c44
       have H1 : ((impl_InsOk.f kj8 t435 t436 t437 t438 t439 (wrap64 (t440 + 1)) t441).bind fun t460 => (if t460 = true then (if t441 < 3 then ((impl_InsOk.f kj8 t435 t436 t437 t438 t439 t440 (wrap64 (t441 + 1))).bind fun t461 => (laws_FnRight.j1 kj8 t444 t445 t448 (!t461))) else (laws_FnRight.j1 kj8 t444 t445 t448 false)) else (laws_FnRight.j1 kj8 t444 t445 t448 true))) = some r := by rw [if_pos rfl] at H; exact H
       clear H
       have H := H1
       clear H1
       replace H := Option.bind_eq_some_iff.mp H
       obtain ⟨t460, A450, H⟩ := H
       replace H : (if t460 = true then (if t441 < 3 then ((impl_InsOk.f kj8 t435 t436 t437 t438 t439 t440 (wrap64 (t441 + 1))).bind fun t461 => (laws_FnRight.j1 kj8 t444 t445 t448 (!t461))) else (laws_FnRight.j1 kj8 t444 t445 t448 false)) else (laws_FnRight.j1 kj8 t444 t445 t448 true)) = some r := H
       have A45 := aM_ A450
       clear A450
       by_cases c46 : t460 = true
       ·subst c46
        have H1 : (if t441 < 3 then ((impl_InsOk.f kj8 t435 t436 t437 t438 t439 t440 (wrap64 (t441 + 1))).bind fun t461 => (laws_FnRight.j1 kj8 t444 t445 t448 (!t461))) else (laws_FnRight.j1 kj8 t444 t445 t448 false)) = some r := by rw [if_pos rfl] at H; exact H
        clear H
        have H := H1
        clear H1
        by_cases c47 : t441 < 3
        ·rw [if_pos c47] at H
         have c47b0 : decide (t441 < 3) = true := decide_eq_true c47
         clear c47
         (first | rw [c47b0] | (simp only [i64_w, i32_w]; rw [c47b0]) | skip)
         replace H := Option.bind_eq_some_iff.mp H
         obtain ⟨t461, A480, H⟩ := H
         replace H : (laws_FnRight.j1 kj8 t444 t445 t448 (!t461)) = some r := H
         have A48 := aM_ A480
         clear A480
         have H' := aM_ H
         clear H
         have hnb49 := NB442_455.out
         have hnc49 := NB455_442.out
         have hcz50_0 : wc.cell? ⟨gb442, 0, none⟩ = some (.int .i64 t435) := (blk_cell BK442.out 0).trans rfl
         have hcz50_1 : wc.cell? ⟨gb442, 1, none⟩ = some (.int .i64 t436) := (blk_cell BK442.out 1).trans rfl
         have hcz50_2 : wc.cell? ⟨gb442, 2, none⟩ = some (.int .i64 t437) := (blk_cell BK442.out 2).trans rfl
         have hcz50_3 : wc.cell? ⟨gb442, 3, none⟩ = some (.int .i64 t438) := (blk_cell BK442.out 3).trans rfl
         have hcz50_4 : wc.cell? ⟨gb442, 4, none⟩ = some (.int .i64 t439) := (blk_cell BK442.out 4).trans rfl
         have hfz50_0 := blk_frozen BK442.out 0
         have hfz50_1 := blk_frozen BK442.out 1
         have hfz50_2 := blk_frozen BK442.out 2
         have hfz50_3 := blk_frozen BK442.out 3
         have hfz50_4 := blk_frozen BK442.out 4
         go_wp2_with (first | (go_at_call 44; (with_reducible refine (impl_InsOk.calls kj8 t435 t436 t437 t438 t439 (wrap64 (t440 + 1)) t441 true _ A45.out).mono ?_); rintro e w51 ⟨rfl, hb⟩; have n0_ := aM_ (Kd.R_below (by (with_reducible repeat (first | apply Kd.R_alloc | apply Kd.R_drewN | apply Kd.R_drew)); exact HO_7.out) hb); have n1_ := aM_ (Kd.R_below (by (with_reducible repeat (first | apply Kd.R_alloc | apply Kd.R_drewN | apply Kd.R_drew)); exact HO_456000.out) hb); have n2_ := aM_ (Kd.S_below (by (with_reducible repeat (first | apply Kd.S_alloc | apply Kd.S_drewN | apply Kd.S_drew)); exact HO_456001.out) hb); have n3_ := aM_ (blk_below (g := gb442) (o := .cells #[.int .i64 t435, .int .i64 t436, .int .i64 t437, .int .i64 t438, .int .i64 t439] 66 (0, 0)) (by (with_reducible repeat (first | refine blk_drewN ?_ _ | refine blk_drew ?_ | refine blk_alloc ?_ _)); exact BK442.out) hb); have n4_ := aM_ (blk_below (g := gb455) (o := .cells #[.slice Ao19 t449.length co19, .slice Ao22 t452.length co22] 53 (0, 0)) (by (with_reducible repeat (first | refine blk_drewN ?_ _ | refine blk_drew ?_ | refine blk_alloc ?_ _)); exact BK455.out) hb); have n5_ := aM_ (below_step (by repeat (first | (with_reducible first | exact HB.out | apply below_alloc | apply pw_below_drewN | apply below_drew1 | refine below_set ?_ GE442.out | refine below_set ?_ GE455.out) | exact HB.out)) hb); clear HO_7; clear HO_456000; clear HO_456001; clear BK442; clear BK455; clear HB; have HO_7 := n0_; have HO_456000 := n1_; have HO_456001 := n2_; have BK442 := n3_; have BK455 := n4_; have HB := n5_; clear n0_ n1_ n2_ n3_ n4_ n5_; have hcz52_0 : w51.cell? ⟨gb442, 0, none⟩ = some (.int .i64 t435) := (blk_cell BK442.out 0).trans rfl; have hcz52_1 : w51.cell? ⟨gb442, 1, none⟩ = some (.int .i64 t436) := (blk_cell BK442.out 1).trans rfl; have hcz52_2 : w51.cell? ⟨gb442, 2, none⟩ = some (.int .i64 t437) := (blk_cell BK442.out 2).trans rfl; have hcz52_3 : w51.cell? ⟨gb442, 3, none⟩ = some (.int .i64 t438) := (blk_cell BK442.out 3).trans rfl; have hcz52_4 : w51.cell? ⟨gb442, 4, none⟩ = some (.int .i64 t439) := (blk_cell BK442.out 4).trans rfl; have hfz52_0 := blk_frozen BK442.out 0; have hfz52_1 := blk_frozen BK442.out 1; have hfz52_2 := blk_frozen BK442.out 2; have hfz52_3 := blk_frozen BK442.out 3; have hfz52_4 := blk_frozen BK442.out 4) | (go_at_call 44; (with_reducible refine (impl_InsOk.calls kj8 t435 t436 t437 t438 t439 t440 (wrap64 (t441 + 1)) t461 _ A48.out).mono ?_); rintro e w53 ⟨rfl, hb⟩; have n0_ := aM_ (Kd.R_below (by (with_reducible repeat (first | apply Kd.R_alloc | apply Kd.R_drewN | apply Kd.R_drew)); exact HO_7.out) hb); have n1_ := aM_ (Kd.R_below (by (with_reducible repeat (first | apply Kd.R_alloc | apply Kd.R_drewN | apply Kd.R_drew)); exact HO_456000.out) hb); have n2_ := aM_ (Kd.S_below (by (with_reducible repeat (first | apply Kd.S_alloc | apply Kd.S_drewN | apply Kd.S_drew)); exact HO_456001.out) hb); have n3_ := aM_ (blk_below (g := gb442) (o := .cells #[.int .i64 t435, .int .i64 t436, .int .i64 t437, .int .i64 t438, .int .i64 t439] 66 (0, 0)) (by (with_reducible repeat (first | refine blk_drewN ?_ _ | refine blk_drew ?_ | refine blk_alloc ?_ _)); exact BK442.out) hb); have n4_ := aM_ (blk_below (g := gb455) (o := .cells #[.slice Ao19 t449.length co19, .slice Ao22 t452.length co22] 53 (0, 0)) (by (with_reducible repeat (first | refine blk_drewN ?_ _ | refine blk_drew ?_ | refine blk_alloc ?_ _)); exact BK455.out) hb); have n5_ := aM_ (below_step (by repeat (first | (with_reducible first | exact HB.out | apply below_alloc | apply pw_below_drewN | apply below_drew1 | refine below_set ?_ GE442.out | refine below_set ?_ GE455.out) | exact HB.out)) hb); clear HO_7; clear HO_456000; clear HO_456001; clear BK442; clear BK455; clear HB; have HO_7 := n0_; have HO_456000 := n1_; have HO_456001 := n2_; have BK442 := n3_; have BK455 := n4_; have HB := n5_; clear n0_ n1_ n2_ n3_ n4_ n5_))
         go_meet
         case rel => exact ⟨_, (!t461), (by first | rfl | (simp; done) | (simp [*]; done)), H', ⟨by have := HJ8.out; first | omega | exact Nat.le_refl _⟩, ⟨by (with_reducible repeat (first | apply Kd.R_alloc | apply Kd.R_drewN | apply Kd.R_drew)); exact HO_7.out⟩, ⟨by (with_reducible repeat (first | apply Kd.R_alloc | apply Kd.R_drewN | apply Kd.R_drew)); exact HO_456000.out⟩, ⟨by (with_reducible repeat (first | apply Kd.S_alloc | apply Kd.S_drewN | apply Kd.S_drew)); exact HO_456001.out⟩, ⟨by (with_reducible repeat (first | refine blk_drewN ?_ _ | refine blk_drew ?_ | refine blk_alloc ?_ _)); exact BK442.out⟩, ⟨by (with_reducible repeat (first | refine blk_drewN ?_ _ | refine blk_drew ?_ | refine blk_alloc ?_ _)); exact BK455.out⟩, ⟨by repeat (first | (with_reducible first | exact HB.out | apply below_alloc | apply pw_below_drewN | apply below_drew1 | refine below_set ?_ GE442.out | refine below_set ?_ GE455.out) | exact HB.out)⟩⟩
        ·rw [if_neg c47] at H
         have c47b0 : decide (t441 < 3) = false := decide_eq_false c47
         clear c47
         (first | rw [c47b0] | (simp only [i64_w, i32_w]; rw [c47b0]) | skip)
         have H' := aM_ H
         clear H
         have hnb54 := NB442_455.out
         have hnc54 := NB455_442.out
         have hcz55_0 : wc.cell? ⟨gb442, 0, none⟩ = some (.int .i64 t435) := (blk_cell BK442.out 0).trans rfl
         have hcz55_1 : wc.cell? ⟨gb442, 1, none⟩ = some (.int .i64 t436) := (blk_cell BK442.out 1).trans rfl
         have hcz55_2 : wc.cell? ⟨gb442, 2, none⟩ = some (.int .i64 t437) := (blk_cell BK442.out 2).trans rfl
         have hcz55_3 : wc.cell? ⟨gb442, 3, none⟩ = some (.int .i64 t438) := (blk_cell BK442.out 3).trans rfl
         have hcz55_4 : wc.cell? ⟨gb442, 4, none⟩ = some (.int .i64 t439) := (blk_cell BK442.out 4).trans rfl
         have hfz55_0 := blk_frozen BK442.out 0
         have hfz55_1 := blk_frozen BK442.out 1
         have hfz55_2 := blk_frozen BK442.out 2
         have hfz55_3 := blk_frozen BK442.out 3
         have hfz55_4 := blk_frozen BK442.out 4
         go_wp2_with (first | (go_at_call 44; (with_reducible refine (impl_InsOk.calls kj8 t435 t436 t437 t438 t439 (wrap64 (t440 + 1)) t441 true _ A45.out).mono ?_); rintro e w56 ⟨rfl, hb⟩; have n0_ := aM_ (Kd.R_below (by (with_reducible repeat (first | apply Kd.R_alloc | apply Kd.R_drewN | apply Kd.R_drew)); exact HO_7.out) hb); have n1_ := aM_ (Kd.R_below (by (with_reducible repeat (first | apply Kd.R_alloc | apply Kd.R_drewN | apply Kd.R_drew)); exact HO_456000.out) hb); have n2_ := aM_ (Kd.S_below (by (with_reducible repeat (first | apply Kd.S_alloc | apply Kd.S_drewN | apply Kd.S_drew)); exact HO_456001.out) hb); have n3_ := aM_ (blk_below (g := gb442) (o := .cells #[.int .i64 t435, .int .i64 t436, .int .i64 t437, .int .i64 t438, .int .i64 t439] 66 (0, 0)) (by (with_reducible repeat (first | refine blk_drewN ?_ _ | refine blk_drew ?_ | refine blk_alloc ?_ _)); exact BK442.out) hb); have n4_ := aM_ (blk_below (g := gb455) (o := .cells #[.slice Ao19 t449.length co19, .slice Ao22 t452.length co22] 53 (0, 0)) (by (with_reducible repeat (first | refine blk_drewN ?_ _ | refine blk_drew ?_ | refine blk_alloc ?_ _)); exact BK455.out) hb); have n5_ := aM_ (below_step (by repeat (first | (with_reducible first | exact HB.out | apply below_alloc | apply pw_below_drewN | apply below_drew1 | refine below_set ?_ GE442.out | refine below_set ?_ GE455.out) | exact HB.out)) hb); clear HO_7; clear HO_456000; clear HO_456001; clear BK442; clear BK455; clear HB; have HO_7 := n0_; have HO_456000 := n1_; have HO_456001 := n2_; have BK442 := n3_; have BK455 := n4_; have HB := n5_; clear n0_ n1_ n2_ n3_ n4_ n5_))
         go_meet
         case rel => exact ⟨_, (false), (by first | rfl | (simp; done) | (simp [*]; done)), H', ⟨by have := HJ8.out; first | omega | exact Nat.le_refl _⟩, ⟨by (with_reducible repeat (first | apply Kd.R_alloc | apply Kd.R_drewN | apply Kd.R_drew)); exact HO_7.out⟩, ⟨by (with_reducible repeat (first | apply Kd.R_alloc | apply Kd.R_drewN | apply Kd.R_drew)); exact HO_456000.out⟩, ⟨by (with_reducible repeat (first | apply Kd.S_alloc | apply Kd.S_drewN | apply Kd.S_drew)); exact HO_456001.out⟩, ⟨by (with_reducible repeat (first | refine blk_drewN ?_ _ | refine blk_drew ?_ | refine blk_alloc ?_ _)); exact BK442.out⟩, ⟨by (with_reducible repeat (first | refine blk_drewN ?_ _ | refine blk_drew ?_ | refine blk_alloc ?_ _)); exact BK455.out⟩, ⟨by repeat (first | (with_reducible first | exact HB.out | apply below_alloc | apply pw_below_drewN | apply below_drew1 | refine below_set ?_ GE442.out | refine below_set ?_ GE455.out) | exact HB.out)⟩⟩
       ·replace c46 := Bool.eq_false_iff.mpr c46
        subst c46
        have H1 : (laws_FnRight.j1 kj8 t444 t445 t448 true) = some r := by rw [if_neg (show ¬ (false = true) by decide)] at H; exact H
        clear H
        have H := H1
        clear H1
        have H' := aM_ H
        clear H
        have hnb57 := NB442_455.out
        have hnc57 := NB455_442.out
        have hcz58_0 : wc.cell? ⟨gb442, 0, none⟩ = some (.int .i64 t435) := (blk_cell BK442.out 0).trans rfl
        have hcz58_1 : wc.cell? ⟨gb442, 1, none⟩ = some (.int .i64 t436) := (blk_cell BK442.out 1).trans rfl
        have hcz58_2 : wc.cell? ⟨gb442, 2, none⟩ = some (.int .i64 t437) := (blk_cell BK442.out 2).trans rfl
        have hcz58_3 : wc.cell? ⟨gb442, 3, none⟩ = some (.int .i64 t438) := (blk_cell BK442.out 3).trans rfl
        have hcz58_4 : wc.cell? ⟨gb442, 4, none⟩ = some (.int .i64 t439) := (blk_cell BK442.out 4).trans rfl
        have hfz58_0 := blk_frozen BK442.out 0
        have hfz58_1 := blk_frozen BK442.out 1
        have hfz58_2 := blk_frozen BK442.out 2
        have hfz58_3 := blk_frozen BK442.out 3
        have hfz58_4 := blk_frozen BK442.out 4
        go_wp2_with (first | (go_at_call 44; (with_reducible refine (impl_InsOk.calls kj8 t435 t436 t437 t438 t439 (wrap64 (t440 + 1)) t441 false _ A45.out).mono ?_); rintro e w59 ⟨rfl, hb⟩; have n0_ := aM_ (Kd.R_below (by (with_reducible repeat (first | apply Kd.R_alloc | apply Kd.R_drewN | apply Kd.R_drew)); exact HO_7.out) hb); have n1_ := aM_ (Kd.R_below (by (with_reducible repeat (first | apply Kd.R_alloc | apply Kd.R_drewN | apply Kd.R_drew)); exact HO_456000.out) hb); have n2_ := aM_ (Kd.S_below (by (with_reducible repeat (first | apply Kd.S_alloc | apply Kd.S_drewN | apply Kd.S_drew)); exact HO_456001.out) hb); have n3_ := aM_ (blk_below (g := gb442) (o := .cells #[.int .i64 t435, .int .i64 t436, .int .i64 t437, .int .i64 t438, .int .i64 t439] 66 (0, 0)) (by (with_reducible repeat (first | refine blk_drewN ?_ _ | refine blk_drew ?_ | refine blk_alloc ?_ _)); exact BK442.out) hb); have n4_ := aM_ (blk_below (g := gb455) (o := .cells #[.slice Ao19 t449.length co19, .slice Ao22 t452.length co22] 53 (0, 0)) (by (with_reducible repeat (first | refine blk_drewN ?_ _ | refine blk_drew ?_ | refine blk_alloc ?_ _)); exact BK455.out) hb); have n5_ := aM_ (below_step (by repeat (first | (with_reducible first | exact HB.out | apply below_alloc | apply pw_below_drewN | apply below_drew1 | refine below_set ?_ GE442.out | refine below_set ?_ GE455.out) | exact HB.out)) hb); clear HO_7; clear HO_456000; clear HO_456001; clear BK442; clear BK455; clear HB; have HO_7 := n0_; have HO_456000 := n1_; have HO_456001 := n2_; have BK442 := n3_; have BK455 := n4_; have HB := n5_; clear n0_ n1_ n2_ n3_ n4_ n5_))
        go_meet
        case rel => exact ⟨_, (true), (by first | rfl | (simp; done) | (simp [*]; done)), H', ⟨by have := HJ8.out; first | omega | exact Nat.le_refl _⟩, ⟨by (with_reducible repeat (first | apply Kd.R_alloc | apply Kd.R_drewN | apply Kd.R_drew)); exact HO_7.out⟩, ⟨by (with_reducible repeat (first | apply Kd.R_alloc | apply Kd.R_drewN | apply Kd.R_drew)); exact HO_456000.out⟩, ⟨by (with_reducible repeat (first | apply Kd.S_alloc | apply Kd.S_drewN | apply Kd.S_drew)); exact HO_456001.out⟩, ⟨by (with_reducible repeat (first | refine blk_drewN ?_ _ | refine blk_drew ?_ | refine blk_alloc ?_ _)); exact BK442.out⟩, ⟨by (with_reducible repeat (first | refine blk_drewN ?_ _ | refine blk_drew ?_ | refine blk_alloc ?_ _)); exact BK455.out⟩, ⟨by repeat (first | (with_reducible first | exact HB.out | apply below_alloc | apply pw_below_drewN | apply below_drew1 | refine below_set ?_ GE442.out | refine below_set ?_ GE455.out) | exact HB.out)⟩⟩
      ·replace c44 := Bool.eq_false_iff.mpr c44
       subst c44
       have H1 : (laws_FnRight.j1 kj8 t444 t445 t448 false) = some r := by rw [if_neg (show ¬ (false = true) by decide)] at H; exact H
       clear H
       have H := H1
       clear H1
       have H' := aM_ H
       clear H
       go_wp2
       go_meet
       case rel => exact ⟨_, (false), (by first | rfl | (simp; done) | (simp [*]; done)), H', ⟨by have := HJ8.out; first | omega | exact Nat.le_refl _⟩, ⟨by (with_reducible repeat (first | apply Kd.R_alloc | apply Kd.R_drewN | apply Kd.R_drew)); exact HO_7.out⟩, ⟨by (with_reducible repeat (first | apply Kd.R_alloc | apply Kd.R_drewN | apply Kd.R_drew)); exact HO_456000.out⟩, ⟨by (with_reducible repeat (first | apply Kd.S_alloc | apply Kd.S_drewN | apply Kd.S_drew)); exact HO_456001.out⟩, ⟨by (with_reducible repeat (first | refine blk_drewN ?_ _ | refine blk_drew ?_ | refine blk_alloc ?_ _)); exact BK442.out⟩, ⟨by (with_reducible repeat (first | refine blk_drewN ?_ _ | refine blk_drew ?_ | refine blk_alloc ?_ _)); exact BK455.out⟩, ⟨by repeat (first | (with_reducible first | exact HB.out | apply below_alloc | apply pw_below_drewN | apply below_drew1 | refine below_set ?_ GE442.out | refine below_set ?_ GE455.out) | exact HB.out)⟩⟩
     case rest =>
      clear HC43
      try clear c2
      try clear p2
      try clear c3
      try clear c4
      try clear c5
      try clear p6
      try clear c24
      try clear c24b0
      try clear c29
      try clear c29b0
      try clear c29b1
      try clear c29b2
      try clear c30
      try clear c32
      try clear c42
      try clear c44
      try clear c46
      try clear c47
      try clear c47b0
      try clear c48
      try clear c49
      try clear c54
      try clear c57
      try clear hcz50_0
      try clear hcz50_1
      try clear hcz50_2
      try clear hcz50_3
      try clear hcz50_4
      try clear hcz52_0
      try clear hcz52_1
      try clear hcz52_2
      try clear hcz52_3
      try clear hcz52_4
      try clear hcz55_0
      try clear hcz55_1
      try clear hcz55_2
      try clear hcz55_3
      try clear hcz55_4
      try clear hcz58_0
      try clear hcz58_1
      try clear hcz58_2
      try clear hcz58_3
      try clear hcz58_4
      try clear hfz50_0
      try clear hfz50_1
      try clear hfz50_2
      try clear hfz50_3
      try clear hfz50_4
      try clear hfz52_0
      try clear hfz52_1
      try clear hfz52_2
      try clear hfz52_3
      try clear hfz52_4
      try clear hfz55_0
      try clear hfz55_1
      try clear hfz55_2
      try clear hfz55_3
      try clear hfz55_4
      try clear hfz58_0
      try clear hfz58_1
      try clear hfz58_2
      try clear hfz58_3
      try clear hfz58_4
      try clear p2
      obtain ⟨kq, x74_42, rfl, HA, HJ42, HO_7, HO_456000, HO_456001, BK442, BK455, HB⟩ := hcut
      cases kq with
      | zero => exact absurd HA.out (by simp [laws_FnRight.j1])
      | succ kj42 =>
       have H := HA.out
       clear HA
       simp only [laws_FnRight.j1] at H
       by_cases c60 : x74_42 = true
       ·subst c60
        have H1 : (some false) = some r := by rw [if_pos rfl] at H; exact H
        clear H
        have H := H1
        clear H1
        obtain rfl := Option.some.inj H
        go_wp2
        go_ret
        exact ⟨by first | rfl | (simp [errW_none, errW_some] <;> rfl) | (simp [*, errW_none, errW_some] <;> rfl), by repeat (first | (with_reducible first | exact HB.out | apply below_alloc | apply pw_below_drewN | apply below_drew1 | refine below_set ?_ GE442.out | refine below_set ?_ GE455.out) | exact HB.out)⟩
       ·replace c60 := Bool.eq_false_iff.mpr c60
        subst c60
        have H1 : (laws_FnRight.l0 kj42 t444 t445 t448 0) = some r := by rw [if_neg (show ¬ (false = true) by decide)] at H; exact H
        clear H
        have H := H1
        clear H1
        have H' := aM_ H
        clear H
        go_wp2
        go_loopg [11] kj42 (fun kq v11 w' => ∃ (x11_3 : Int), v11 = .int .i64 x11_3 ∧ Aside0 (laws_FnRight.l0 kq t444 t445 t448 x11_3 = some r) ∧ Aside0 (kq ≤ kj42) ∧ Aside0 (Kd.R k66 66 w' w.heap.size (fun k_ => k_ ≠ gb442) (.slice Ao15 t444.length co15) t444) ∧ Aside0 (Kd.R (Kd.int .i64) 3 w' w.heap.size (fun _ => True) (.slice Ao19 t449.length co19) t449) ∧ Aside0 (Kd.S (Kd.slice 66 k66) 70 w' w.heap.size (fun k_ => some k_ ≠ ((.slice Ao15 t444.length co15) : Value).ownBlock ∧ k_ ≠ gb442) (.slice Ao22 t452.length co22) t452) ∧ Aside0 (w'.heap[gb442]? = some (.cells #[.int .i64 t435, .int .i64 t436, .int .i64 t437, .int .i64 t438, .int .i64 t439] 66 (0, 0))) ∧ Aside0 (w'.heap[gb455]? = some (.cells #[(.slice Ao19 t449.length co19), (.slice Ao22 t452.length co22)] 53 (0, 0))) ∧ Aside0 (Below w.heap.size w w'))
        case atStart => exact ⟨(0), (by first | rfl | (simp; done) | (simp [*]; done)), H', ⟨Nat.le_refl _⟩, ⟨by (with_reducible repeat (first | apply Kd.R_alloc | apply Kd.R_drewN | apply Kd.R_drew)); exact HO_7.out⟩, ⟨by (with_reducible repeat (first | apply Kd.R_alloc | apply Kd.R_drewN | apply Kd.R_drew)); exact HO_456000.out⟩, ⟨by (with_reducible repeat (first | apply Kd.S_alloc | apply Kd.S_drewN | apply Kd.S_drew)); exact HO_456001.out⟩, ⟨by (with_reducible repeat (first | refine blk_drewN ?_ _ | refine blk_drew ?_ | refine blk_alloc ?_ _)); exact BK442.out⟩, ⟨by (with_reducible repeat (first | refine blk_drewN ?_ _ | refine blk_drew ?_ | refine blk_alloc ?_ _)); exact BK455.out⟩, ⟨by repeat (first | (with_reducible first | exact HB.out | apply below_alloc | apply pw_below_drewN | apply below_drew1 | refine below_set ?_ GE442.out | refine below_set ?_ GE455.out) | exact HB.out)⟩⟩
        case round =>
         clear H'
         try clear c2
         try clear p2
         try clear c3
         try clear c4
         try clear c5
         try clear c6
         try clear p6
         try clear c24
         try clear c24b0
         try clear c29
         try clear c29b0
         try clear c29b1
         try clear c29b2
         try clear c30
         try clear c32
         try clear c42
         try clear c44
         try clear c46
         try clear c47
         try clear c47b0
         try clear c48
         try clear c49
         try clear c54
         try clear c57
         try clear c60
         try clear hcz50_0
         try clear hcz50_1
         try clear hcz50_2
         try clear hcz50_3
         try clear hcz50_4
         try clear hcz52_0
         try clear hcz52_1
         try clear hcz52_2
         try clear hcz52_3
         try clear hcz52_4
         try clear hcz55_0
         try clear hcz55_1
         try clear hcz55_2
         try clear hcz55_3
         try clear hcz55_4
         try clear hcz58_0
         try clear hcz58_1
         try clear hcz58_2
         try clear hcz58_3
         try clear hcz58_4
         try clear hfz50_0
         try clear hfz50_1
         try clear hfz50_2
         try clear hfz50_3
         try clear hfz50_4
         try clear hfz52_0
         try clear hfz52_1
         try clear hfz52_2
         try clear hfz52_3
         try clear hfz52_4
         try clear hfz55_0
         try clear hfz55_1
         try clear hfz55_2
         try clear hfz55_3
         try clear hfz55_4
         try clear hfz58_0
         try clear hfz58_1
         try clear hfz58_2
         try clear hfz58_3
         try clear hfz58_4
         try clear p2
         try clear p6
         obtain ⟨x11_3, rfl, HA, HK3, HO_7, HO_456000, HO_456001, BK442, BK455, HB⟩ := hrel
         cases gk with
         | zero => exact absurd HA.out (by simp [laws_FnRight.l0])
         | succ k3 =>
          have H := HA.out
          clear HA
          simp only [laws_FnRight.l0] at H
          have HC61 := aM_ H
          clear H
          go_upto_region 13 with (fail)
          go_cut [81] (fun v81 wc => ∃ (kq : Nat) (x81_60 : Bool), v81 = .bool x81_60 ∧ Aside0 (laws_FnRight.j3 kq t444 t445 t448 x11_3 x81_60 = some r) ∧ Aside0 (kq ≤ k3) ∧ Aside0 (Kd.R k66 66 wc w.heap.size (fun k_ => k_ ≠ gb442) (.slice Ao15 t444.length co15) t444) ∧ Aside0 (Kd.R (Kd.int .i64) 3 wc w.heap.size (fun _ => True) (.slice Ao19 t449.length co19) t449) ∧ Aside0 (Kd.S (Kd.slice 66 k66) 70 wc w.heap.size (fun k_ => some k_ ≠ ((.slice Ao15 t444.length co15) : Value).ownBlock ∧ k_ ≠ gb442) (.slice Ao22 t452.length co22) t452) ∧ Aside0 (wc.heap[gb442]? = some (.cells #[.int .i64 t435, .int .i64 t436, .int .i64 t437, .int .i64 t438, .int .i64 t439] 66 (0, 0))) ∧ Aside0 (wc.heap[gb455]? = some (.cells #[(.slice Ao19 t449.length co19), (.slice Ao22 t452.length co22)] 53 (0, 0))) ∧ Aside0 (Below w.heap.size w wc))
          case first =>
           have H := HC61.out
           clear HC61
           by_cases c62 : x11_3 < (t444.length : Int)
           ·rw [if_pos c62] at H
            have c62b0 : decide (x11_3 < (t444.length : Int)) = true := decide_eq_true c62
            clear c62
            (first | rw [c62b0] | (simp only [i64_w, i32_w]; rw [c62b0]) | skip)
            have H' := aM_ H
            clear H
            go_wp2
            go_meet
            case rel => exact ⟨_, (t448), (by first | rfl | (simp; done) | (simp [*]; done)), H', ⟨by have := HJ8.out; have := HJ42.out; have := HK3.out; first | omega | exact Nat.le_refl _⟩, ⟨by (with_reducible repeat (first | apply Kd.R_alloc | apply Kd.R_drewN | apply Kd.R_drew)); exact HO_7.out⟩, ⟨by (with_reducible repeat (first | apply Kd.R_alloc | apply Kd.R_drewN | apply Kd.R_drew)); exact HO_456000.out⟩, ⟨by (with_reducible repeat (first | apply Kd.S_alloc | apply Kd.S_drewN | apply Kd.S_drew)); exact HO_456001.out⟩, ⟨by (with_reducible repeat (first | refine blk_drewN ?_ _ | refine blk_drew ?_ | refine blk_alloc ?_ _)); exact BK442.out⟩, ⟨by (with_reducible repeat (first | refine blk_drewN ?_ _ | refine blk_drew ?_ | refine blk_alloc ?_ _)); exact BK455.out⟩, ⟨by repeat (first | (with_reducible first | exact HB.out | apply below_alloc | apply pw_below_drewN | apply below_drew1 | refine below_set ?_ GE442.out | refine below_set ?_ GE455.out) | exact HB.out)⟩⟩
           ·rw [if_neg c62] at H
            have c62b0 : decide (x11_3 < (t444.length : Int)) = false := decide_eq_false c62
            clear c62
            (first | rw [c62b0] | (simp only [i64_w, i32_w]; rw [c62b0]) | skip)
            have H' := aM_ H
            clear H
            go_wp2
            go_meet
            case rel => exact ⟨_, (false), (by first | rfl | (simp; done) | (simp [*]; done)), H', ⟨by have := HJ8.out; have := HJ42.out; have := HK3.out; first | omega | exact Nat.le_refl _⟩, ⟨by (with_reducible repeat (first | apply Kd.R_alloc | apply Kd.R_drewN | apply Kd.R_drew)); exact HO_7.out⟩, ⟨by (with_reducible repeat (first | apply Kd.R_alloc | apply Kd.R_drewN | apply Kd.R_drew)); exact HO_456000.out⟩, ⟨by (with_reducible repeat (first | apply Kd.S_alloc | apply Kd.S_drewN | apply Kd.S_drew)); exact HO_456001.out⟩, ⟨by (with_reducible repeat (first | refine blk_drewN ?_ _ | refine blk_drew ?_ | refine blk_alloc ?_ _)); exact BK442.out⟩, ⟨by (with_reducible repeat (first | refine blk_drewN ?_ _ | refine blk_drew ?_ | refine blk_alloc ?_ _)); exact BK455.out⟩, ⟨by repeat (first | (with_reducible first | exact HB.out | apply below_alloc | apply pw_below_drewN | apply below_drew1 | refine below_set ?_ GE442.out | refine below_set ?_ GE455.out) | exact HB.out)⟩⟩
          case rest =>
           clear HC61
           try clear c2
           try clear p2
           try clear c3
           try clear c4
           try clear c5
           try clear c6
           try clear p6
           try clear c24
           try clear c24b0
           try clear c29
           try clear c29b0
           try clear c29b1
           try clear c29b2
           try clear c30
           try clear c32
           try clear c42
           try clear c44
           try clear c46
           try clear c47
           try clear c47b0
           try clear c48
           try clear c49
           try clear c54
           try clear c57
           try clear c60
           try clear c62
           try clear c62b0
           try clear hcz50_0
           try clear hcz50_1
           try clear hcz50_2
           try clear hcz50_3
           try clear hcz50_4
           try clear hcz52_0
           try clear hcz52_1
           try clear hcz52_2
           try clear hcz52_3
           try clear hcz52_4
           try clear hcz55_0
           try clear hcz55_1
           try clear hcz55_2
           try clear hcz55_3
           try clear hcz55_4
           try clear hcz58_0
           try clear hcz58_1
           try clear hcz58_2
           try clear hcz58_3
           try clear hcz58_4
           try clear hfz50_0
           try clear hfz50_1
           try clear hfz50_2
           try clear hfz50_3
           try clear hfz50_4
           try clear hfz52_0
           try clear hfz52_1
           try clear hfz52_2
           try clear hfz52_3
           try clear hfz52_4
           try clear hfz55_0
           try clear hfz55_1
           try clear hfz55_2
           try clear hfz55_3
           try clear hfz55_4
           try clear hfz58_0
           try clear hfz58_1
           try clear hfz58_2
           try clear hfz58_3
           try clear hfz58_4
           try clear p2
           try clear p6
           obtain ⟨kq, x81_60, rfl, HA, HJ60, HO_7, HO_456000, HO_456001, BK442, BK455, HB⟩ := hcut
           cases kq with
           | zero => exact absurd HA.out (by simp [laws_FnRight.j3])
           | succ kj60 =>
            have H := HA.out
            clear HA
            simp only [laws_FnRight.j3] at H
            by_cases c63 : x81_60 = true
            ·subst c63
             have H1 : (if 0 ≤ x11_3 then (if x11_3 < (t444.length : Int) then ((impl_InsOk.f kj60 ((rd_T66 t444 x11_3).f0) ((rd_T66 t444 x11_3).f1) ((rd_T66 t444 x11_3).f2) ((rd_T66 t444 x11_3).f3) ((rd_T66 t444 x11_3).f4) (t444.length : Int) t445).bind fun t463 => (if t463 = true then (laws_FnRight.l0 kj60 t444 t445 t448 (wrap64 (x11_3 + 1))) else (some false))) else (none)) else (none)) = some r := by rw [if_pos rfl] at H; exact H
             clear H
             have H := H1
             clear H1
             by_cases c64 : 0 ≤ x11_3
             ·rw [if_pos c64] at H
              have c64b0 : decide (0 ≤ x11_3) = true := decide_eq_true c64
              clear c64
              by_cases c65 : x11_3 < (t444.length : Int)
              ·rw [if_pos c65] at H
               have c65b0 : decide (x11_3 < (t444.length : Int)) = true := decide_eq_true c65
               clear c65
               replace H := Option.bind_eq_some_iff.mp H
               obtain ⟨t463, A660, H⟩ := H
               replace H : (if t463 = true then (laws_FnRight.l0 kj60 t444 t445 t448 (wrap64 (x11_3 + 1))) else (some false)) = some r := H
               have A66 := aM_ A660
               clear A660
               by_cases c67 : t463 = true
               ·subst c67
                have H1 : (laws_FnRight.l0 kj60 t444 t445 t448 (wrap64 (x11_3 + 1))) = some r := by rw [if_pos rfl] at H; exact H
                clear H
                have H := H1
                clear H1
                have H' := aM_ H
                clear H
                have p462 : 0 ≤ (x11_3 : Int) := of_decide_eq_true (by first | (with_reducible assumption) | assumption)
                have q462 : x11_3 < (t444.length : Int) := of_decide_eq_true (by first | (with_reducible assumption) | assumption)
                obtain ⟨ad462, e462, hx462_0, hx462_1, hx462_2, hx462_3, hx462_4⟩ := at_T66 (Kd.R_reads' HO_7.out).2.2 x11_3 p462 q462
                cases e462
                replace p462 := eq_true p462
                replace q462 := eq_true q462
                go_wp2_with (first | ((with_reducible refine gate_callee (f := 44) rfl ?_); refine goesL_ (some 91) rfl rfl Try.func44 (by kernel_rfl) rfl #[.agg #[.int .i64 ((rd_T66 t444 x11_3).f0), .int .i64 ((rd_T66 t444 x11_3).f1), .int .i64 ((rd_T66 t444 x11_3).f2), .int .i64 ((rd_T66 t444 x11_3).f3), .int .i64 ((rd_T66 t444 x11_3).f4)], .int .i64 (t444.length : Int), .int .i64 t445] rfl (by (try simp only [mT_, mC_, mN_]); first | done | rfl | (simp only [List.length_drop, List.length_take]; rfl)) ?_; (with_reducible refine (impl_InsOk.calls kj60 ((rd_T66 t444 x11_3).f0) ((rd_T66 t444 x11_3).f1) ((rd_T66 t444 x11_3).f2) ((rd_T66 t444 x11_3).f3) ((rd_T66 t444 x11_3).f4) (t444.length : Int) t445 true _ A66.out).mono ?_); rintro e w68 ⟨rfl, hb⟩; refine ⟨_, rfl, ?_⟩; have n0_ := aM_ (Kd.R_below (by (with_reducible repeat (first | apply Kd.R_alloc | apply Kd.R_drewN | apply Kd.R_drew)); exact HO_7.out) hb); have n1_ := aM_ (Kd.R_below (by (with_reducible repeat (first | apply Kd.R_alloc | apply Kd.R_drewN | apply Kd.R_drew)); exact HO_456000.out) hb); have n2_ := aM_ (Kd.S_below (by (with_reducible repeat (first | apply Kd.S_alloc | apply Kd.S_drewN | apply Kd.S_drew)); exact HO_456001.out) hb); have n3_ := aM_ (blk_below (g := gb442) (o := .cells #[.int .i64 t435, .int .i64 t436, .int .i64 t437, .int .i64 t438, .int .i64 t439] 66 (0, 0)) (by (with_reducible repeat (first | refine blk_drewN ?_ _ | refine blk_drew ?_ | refine blk_alloc ?_ _)); exact BK442.out) hb); have n4_ := aM_ (blk_below (g := gb455) (o := .cells #[.slice Ao19 t449.length co19, .slice Ao22 t452.length co22] 53 (0, 0)) (by (with_reducible repeat (first | refine blk_drewN ?_ _ | refine blk_drew ?_ | refine blk_alloc ?_ _)); exact BK455.out) hb); have n5_ := aM_ (below_step (by repeat (first | (with_reducible first | exact HB.out | apply below_alloc | apply pw_below_drewN | apply below_drew1 | refine below_set ?_ GE442.out | refine below_set ?_ GE455.out) | exact HB.out)) hb); clear HO_7; clear HO_456000; clear HO_456001; clear BK442; clear BK455; clear HB; have HO_7 := n0_; have HO_456000 := n1_; have HO_456001 := n2_; have BK442 := n3_; have BK455 := n4_; have HB := n5_; clear n0_ n1_ n2_ n3_ n4_ n5_))
                go_roundg kj60
                case measure => have := HJ8.out; have := HJ42.out; have := HK3.out; have := HJ60.out; omega
                case rel => exact ⟨(wrap64 (x11_3 + 1)), (by first | rfl | (simp; done) | (simp [*]; done)), H', ⟨by have := HJ8.out; have := HJ42.out; have := HK3.out; have := HJ60.out; omega⟩, ⟨by (with_reducible repeat (first | apply Kd.R_alloc | apply Kd.R_drewN | apply Kd.R_drew)); exact HO_7.out⟩, ⟨by (with_reducible repeat (first | apply Kd.R_alloc | apply Kd.R_drewN | apply Kd.R_drew)); exact HO_456000.out⟩, ⟨by (with_reducible repeat (first | apply Kd.S_alloc | apply Kd.S_drewN | apply Kd.S_drew)); exact HO_456001.out⟩, ⟨by (with_reducible repeat (first | refine blk_drewN ?_ _ | refine blk_drew ?_ | refine blk_alloc ?_ _)); exact BK442.out⟩, ⟨by (with_reducible repeat (first | refine blk_drewN ?_ _ | refine blk_drew ?_ | refine blk_alloc ?_ _)); exact BK455.out⟩, ⟨by repeat (first | (with_reducible first | exact HB.out | apply below_alloc | apply pw_below_drewN | apply below_drew1 | refine below_set ?_ GE442.out | refine below_set ?_ GE455.out) | exact HB.out)⟩⟩
               ·replace c67 := Bool.eq_false_iff.mpr c67
                subst c67
                have H1 : (some false) = some r := by rw [if_neg (show ¬ (false = true) by decide)] at H; exact H
                clear H
                have H := H1
                clear H1
                obtain rfl := Option.some.inj H
                have p462 : 0 ≤ (x11_3 : Int) := of_decide_eq_true (by first | (with_reducible assumption) | assumption)
                have q462 : x11_3 < (t444.length : Int) := of_decide_eq_true (by first | (with_reducible assumption) | assumption)
                obtain ⟨ad462, e462, hx462_0, hx462_1, hx462_2, hx462_3, hx462_4⟩ := at_T66 (Kd.R_reads' HO_7.out).2.2 x11_3 p462 q462
                cases e462
                replace p462 := eq_true p462
                replace q462 := eq_true q462
                go_wp2_with (first | ((with_reducible refine gate_callee (f := 44) rfl ?_); refine goesL_ (some 91) rfl rfl Try.func44 (by kernel_rfl) rfl #[.agg #[.int .i64 ((rd_T66 t444 x11_3).f0), .int .i64 ((rd_T66 t444 x11_3).f1), .int .i64 ((rd_T66 t444 x11_3).f2), .int .i64 ((rd_T66 t444 x11_3).f3), .int .i64 ((rd_T66 t444 x11_3).f4)], .int .i64 (t444.length : Int), .int .i64 t445] rfl (by (try simp only [mT_, mC_, mN_]); first | done | rfl | (simp only [List.length_drop, List.length_take]; rfl)) ?_; (with_reducible refine (impl_InsOk.calls kj60 ((rd_T66 t444 x11_3).f0) ((rd_T66 t444 x11_3).f1) ((rd_T66 t444 x11_3).f2) ((rd_T66 t444 x11_3).f3) ((rd_T66 t444 x11_3).f4) (t444.length : Int) t445 false _ A66.out).mono ?_); rintro e w69 ⟨rfl, hb⟩; refine ⟨_, rfl, ?_⟩; have n0_ := aM_ (Kd.R_below (by (with_reducible repeat (first | apply Kd.R_alloc | apply Kd.R_drewN | apply Kd.R_drew)); exact HO_7.out) hb); have n1_ := aM_ (Kd.R_below (by (with_reducible repeat (first | apply Kd.R_alloc | apply Kd.R_drewN | apply Kd.R_drew)); exact HO_456000.out) hb); have n2_ := aM_ (Kd.S_below (by (with_reducible repeat (first | apply Kd.S_alloc | apply Kd.S_drewN | apply Kd.S_drew)); exact HO_456001.out) hb); have n3_ := aM_ (blk_below (g := gb442) (o := .cells #[.int .i64 t435, .int .i64 t436, .int .i64 t437, .int .i64 t438, .int .i64 t439] 66 (0, 0)) (by (with_reducible repeat (first | refine blk_drewN ?_ _ | refine blk_drew ?_ | refine blk_alloc ?_ _)); exact BK442.out) hb); have n4_ := aM_ (blk_below (g := gb455) (o := .cells #[.slice Ao19 t449.length co19, .slice Ao22 t452.length co22] 53 (0, 0)) (by (with_reducible repeat (first | refine blk_drewN ?_ _ | refine blk_drew ?_ | refine blk_alloc ?_ _)); exact BK455.out) hb); have n5_ := aM_ (below_step (by repeat (first | (with_reducible first | exact HB.out | apply below_alloc | apply pw_below_drewN | apply below_drew1 | refine below_set ?_ GE442.out | refine below_set ?_ GE455.out) | exact HB.out)) hb); clear HO_7; clear HO_456000; clear HO_456001; clear BK442; clear BK455; clear HB; have HO_7 := n0_; have HO_456000 := n1_; have HO_456001 := n2_; have BK442 := n3_; have BK455 := n4_; have HB := n5_; clear n0_ n1_ n2_ n3_ n4_ n5_))
                go_ret
                exact ⟨by first | rfl | (simp [errW_none, errW_some] <;> rfl) | (simp [*, errW_none, errW_some] <;> rfl), by repeat (first | (with_reducible first | exact HB.out | apply below_alloc | apply pw_below_drewN | apply below_drew1 | refine below_set ?_ GE442.out | refine below_set ?_ GE455.out) | exact HB.out)⟩
              ·rw [if_neg c65] at H
               exact absurd H (by simp)
             ·rw [if_neg c64] at H
              exact absurd H (by simp)
            ·replace c63 := Bool.eq_false_iff.mpr c63
             subst c63
             have H1 : (some true) = some r := by rw [if_neg (show ¬ (false = true) by decide)] at H; exact H
             clear H
             have H := H1
             clear H1
             obtain rfl := Option.some.inj H
             go_wp2
             go_ret
             exact ⟨by first | rfl | (simp [errW_none, errW_some] <;> rfl) | (simp [*, errW_none, errW_some] <;> rfl), by repeat (first | (with_reducible first | exact HB.out | apply below_alloc | apply pw_below_drewN | apply below_drew1 | refine below_set ?_ GE442.out | refine below_set ?_ GE455.out) | exact HB.out)⟩
end Go.Proofs.Ytpefeaiglkkkoab.PFnRight
