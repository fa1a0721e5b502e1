/- A part of the proof that the law FnMessage holds for every input: the words, functions and walks that its row needs, without a condition of their own. -/
import Derived.Test.YthbcnakmnbilhaaZFnMessagea0
import Derived.Test.YthbcnakmnbilhaaZFnMessagea2
import Derived.Test.YthbcnakmnbilhaaZFnMessagea4
import Derived.Test.YthbcnakmnbilhaaZFnMessagea5
import Derived.Test.YthbcnakmnbilhaaZFnMessagea7
import Derived.Test.YthbcnakmnbilhaaZFnMessages
namespace Go.Proofs.Ythbcnakmnbilhaa.PFnMessage
open Go.RowKit Go.Proofs.YthbcnakmnbilhaaW.PrintWords Go.Proofs.YthbcnakmnbilhaaW.PrintLast Go.Proofs.YthbcnakmnbilhaaW.PrintMore
attribute [local go_sem] max2_int min2_int max_two min_two max_three min_three max_four min_four   -- for this text's walks alone
set_option linter.unusedVariables false
set_option linter.unusedSimpArgs false
def laws_FnMessage.f (k : Nat) (l0 : List Int) : Option (Bool) := (laws_big.f l0).bind fun t268 => (if t268 = true then (some true) else ((impl_MemoryNew.f k).bind fun t269 => (if 24 ≤ 35184372088832 then ((some (List.replicate 24 0 : List Int)).bind fun y276 => ((laws_at.f l0 1).bind fun t279 => ((impl_Store.f k t269 (List.replicate 24 0) 1 (wrap64 (1 + t279)) false).bind fun bt280 => ((impl_Store.f k bt280.1 bt280.2 2 1 true).bind fun bt286 => ((impl_Load.f k bt286.1 y276 2 0 true).bind fun bt292 => ((impl_Load.f k bt286.1 y276 2 0 false).bind fun bt296 => ((laws_at.f l0 2).bind fun t300 => ((impl_Load.f k bt286.1 bt292.2 1 t300 false).bind fun bt301 => ((impl_Load.f k bt286.1 bt296.2 1 (wrap64 (1 + t300)) false).bind fun bt305 => ((impl_Load.f k bt286.1 bt296.2 1 0 false).bind fun bt309 => ((spec_Load.f k bt286.1 bt292.2 1 t300 false).bind fun bt313 => (if bt292.1 = 1 then (if bt301.1 = (wrap64 (1 + t279)) then (if bt313.1 = (wrap64 (1 + t279)) then (if bt305.1 = 0 then (if bt309.1 = (wrap64 (1 + t279)) then ((impl_Knows.f k bt292.2 bt296.2).bind fun t317 => (if t317 = true then ((impl_Knows.f k bt286.2 bt292.2).bind fun t318 => (some t318)) else (some false))) else (some false)) else (some false)) else (some false)) else (some false)) else (some false))))))))))))) else (none))))
set_option maxHeartbeats 8000000 in
set_option maxRecDepth 100000 in
theorem laws_FnMessage.calls (k : Nat) (A0 : Option Addr) (c0 : Nat) (l0 : List Int) (r : Bool) (w : World) (hr0 : Kd.C (Kd.int .u8) w A0 l0.length l0) (hc0 : l0.length ≤ c0) (h : laws_FnMessage.f k l0 = some r) (hr : r = true) :
  Calls Try.prog 4 #[.slice A0 l0.length c0] w fun e w' => e = .returned (.bool r) ∧ Below w.heap.size w w' := by
 have hu24 := Try.underlying24
 have HR0 := aM_ hr0
 have HC0 := aM_ hc0
 clear hr0 hc0
 have HB := aM_ (Below.refl w.heap.size w)
 have H : ((laws_big.f l0).bind fun t268 => (if t268 = true then (some true) else ((impl_MemoryNew.f k).bind fun t269 => (if 24 ≤ 35184372088832 then ((some (List.replicate 24 0 : List Int)).bind fun y276 => ((laws_at.f l0 1).bind fun t279 => ((impl_Store.f k t269 (List.replicate 24 0) 1 (wrap64 (1 + t279)) false).bind fun bt280 => ((impl_Store.f k bt280.1 bt280.2 2 1 true).bind fun bt286 => ((impl_Load.f k bt286.1 y276 2 0 true).bind fun bt292 => ((impl_Load.f k bt286.1 y276 2 0 false).bind fun bt296 => ((laws_at.f l0 2).bind fun t300 => ((impl_Load.f k bt286.1 bt292.2 1 t300 false).bind fun bt301 => ((impl_Load.f k bt286.1 bt296.2 1 (wrap64 (1 + t300)) false).bind fun bt305 => ((impl_Load.f k bt286.1 bt296.2 1 0 false).bind fun bt309 => ((spec_Load.f k bt286.1 bt292.2 1 t300 false).bind fun bt313 => (if bt292.1 = 1 then (if bt301.1 = (wrap64 (1 + t279)) then (if bt313.1 = (wrap64 (1 + t279)) then (if bt305.1 = 0 then (if bt309.1 = (wrap64 (1 + t279)) then ((impl_Knows.f k bt292.2 bt296.2).bind fun t317 => (if t317 = true then ((impl_Knows.f k bt286.2 bt292.2).bind fun t318 => (some t318)) else (some false))) else (some false)) else (some false)) else (some false)) else (some false)) else (some false))))))))))))) else (none))))) = some r := h
 clear h
 replace H := Option.bind_eq_some_iff.mp H
 obtain ⟨t268, A20, H⟩ := H
 replace H : (if t268 = true then (some true) else ((impl_MemoryNew.f k).bind fun t269 => (if 24 ≤ 35184372088832 then ((some (List.replicate 24 0 : List Int)).bind fun y276 => ((laws_at.f l0 1).bind fun t279 => ((impl_Store.f k t269 (List.replicate 24 0) 1 (wrap64 (1 + t279)) false).bind fun bt280 => ((impl_Store.f k bt280.1 bt280.2 2 1 true).bind fun bt286 => ((impl_Load.f k bt286.1 y276 2 0 true).bind fun bt292 => ((impl_Load.f k bt286.1 y276 2 0 false).bind fun bt296 => ((laws_at.f l0 2).bind fun t300 => ((impl_Load.f k bt286.1 bt292.2 1 t300 false).bind fun bt301 => ((impl_Load.f k bt286.1 bt296.2 1 (wrap64 (1 + t300)) false).bind fun bt305 => ((impl_Load.f k bt286.1 bt296.2 1 0 false).bind fun bt309 => ((spec_Load.f k bt286.1 bt292.2 1 t300 false).bind fun bt313 => (if bt292.1 = 1 then (if bt301.1 = (wrap64 (1 + t279)) then (if bt313.1 = (wrap64 (1 + t279)) then (if bt305.1 = 0 then (if bt309.1 = (wrap64 (1 + t279)) then ((impl_Knows.f k bt292.2 bt296.2).bind fun t317 => (if t317 = true then ((impl_Knows.f k bt286.2 bt292.2).bind fun t318 => (some t318)) else (some false))) else (some false)) else (some false)) else (some false)) else (some false)) else (some false))))))))))))) else (none)))) = some r := H
 have A2 := aM_ A20
 clear A20
 by_cases c3 : t268 = true
 ·subst c3
  have H1 : (some true) = some r := by rw [if_pos rfl] at H; exact H
  clear H
  have H := H1
  clear H1
  obtain rfl := Option.some.inj H
  go_enter Try.func4, Try.ntmps4
  go_wp2_with (first | ((with_reducible refine gate_callee (f := 18) rfl ?_); refine gL_ (some 21) Try.func18 #[.slice A0 l0.length c0] ?_; (with_reducible refine (laws_big.calls _ _ l0 true _ ?side1 ?side2 A2.out).mono ?_); (case side1 => exact cS_ HR0.out); (case side2 => exact HC0.out); rintro e w' ⟨rfl, ⟨nd, rfl⟩⟩; refine ⟨_, rfl, ?_⟩))
  go_ret
  exact fI_ HB.out
 ·replace c3 := Bool.eq_false_iff.mpr c3
  subst c3
  have H1 : ((impl_MemoryNew.f k).bind fun t269 => (if 24 ≤ 35184372088832 then ((some (List.replicate 24 0 : List Int)).bind fun y276 => ((laws_at.f l0 1).bind fun t279 => ((impl_Store.f k t269 (List.replicate 24 0) 1 (wrap64 (1 + t279)) false).bind fun bt280 => ((impl_Store.f k bt280.1 bt280.2 2 1 true).bind fun bt286 => ((impl_Load.f k bt286.1 y276 2 0 true).bind fun bt292 => ((impl_Load.f k bt286.1 y276 2 0 false).bind fun bt296 => ((laws_at.f l0 2).bind fun t300 => ((impl_Load.f k bt286.1 bt292.2 1 t300 false).bind fun bt301 => ((impl_Load.f k bt286.1 bt296.2 1 (wrap64 (1 + t300)) false).bind fun bt305 => ((impl_Load.f k bt286.1 bt296.2 1 0 false).bind fun bt309 => ((spec_Load.f k bt286.1 bt292.2 1 t300 false).bind fun bt313 => (if bt292.1 = 1 then (if bt301.1 = (wrap64 (1 + t279)) then (if bt313.1 = (wrap64 (1 + t279)) then (if bt305.1 = 0 then (if bt309.1 = (wrap64 (1 + t279)) then ((impl_Knows.f k bt292.2 bt296.2).bind fun t317 => (if t317 = true then ((impl_Knows.f k bt286.2 bt292.2).bind fun t318 => (some t318)) else (some false))) else (some false)) else (some false)) else (some false)) else (some false)) else (some false))))))))))))) else (none))) = some r := by rw [if_neg (show ¬ (false = true) by decide)] at H; exact H
  clear H
  have H := H1
  clear H1
  replace H := Option.bind_eq_some_iff.mp H
  obtain ⟨t269, A40, H⟩ := H
  replace H : (if 24 ≤ 35184372088832 then ((some (List.replicate 24 0 : List Int)).bind fun y276 => ((laws_at.f l0 1).bind fun t279 => ((impl_Store.f k t269 (List.replicate 24 0) 1 (wrap64 (1 + t279)) false).bind fun bt280 => ((impl_Store.f k bt280.1 bt280.2 2 1 true).bind fun bt286 => ((impl_Load.f k bt286.1 y276 2 0 true).bind fun bt292 => ((impl_Load.f k bt286.1 y276 2 0 false).bind fun bt296 => ((laws_at.f l0 2).bind fun t300 => ((impl_Load.f k bt286.1 bt292.2 1 t300 false).bind fun bt301 => ((impl_Load.f k bt286.1 bt296.2 1 (wrap64 (1 + t300)) false).bind fun bt305 => ((impl_Load.f k bt286.1 bt296.2 1 0 false).bind fun bt309 => ((spec_Load.f k bt286.1 bt292.2 1 t300 false).bind fun bt313 => (if bt292.1 = 1 then (if bt301.1 = (wrap64 (1 + t279)) then (if bt313.1 = (wrap64 (1 + t279)) then (if bt305.1 = 0 then (if bt309.1 = (wrap64 (1 + t279)) then ((impl_Knows.f k bt292.2 bt296.2).bind fun t317 => (if t317 = true then ((impl_Knows.f k bt286.2 bt292.2).bind fun t318 => (some t318)) else (some false))) else (some false)) else (some false)) else (some false)) else (some false)) else (some false))))))))))))) else (none)) = some r := H
  have A4 := aM_ A40
  clear A40
  by_cases c5 : 24 ≤ 35184372088832
  ·rw [if_pos c5] at H
   have c5b0 := eq_true c5
   have c5b1 : decide (24 ≤ 35184372088832) = true := decide_eq_true c5
   clear c5
   obtain ⟨y273, hy273⟩ : ∃ y_ : List Int, y_ = (List.replicate 24 0) := ⟨_, rfl⟩
   replace H : ((some (List.replicate 24 0 : List Int)).bind fun y276 => ((laws_at.f l0 1).bind fun t279 => ((impl_Store.f k t269 y273 1 (wrap64 (1 + t279)) false).bind fun bt280 => ((impl_Store.f k bt280.1 bt280.2 2 1 true).bind fun bt286 => ((impl_Load.f k bt286.1 y276 2 0 true).bind fun bt292 => ((impl_Load.f k bt286.1 y276 2 0 false).bind fun bt296 => ((laws_at.f l0 2).bind fun t300 => ((impl_Load.f k bt286.1 bt292.2 1 t300 false).bind fun bt301 => ((impl_Load.f k bt286.1 bt296.2 1 (wrap64 (1 + t300)) false).bind fun bt305 => ((impl_Load.f k bt286.1 bt296.2 1 0 false).bind fun bt309 => ((spec_Load.f k bt286.1 bt292.2 1 t300 false).bind fun bt313 => (if bt292.1 = 1 then (if bt301.1 = (wrap64 (1 + t279)) then (if bt313.1 = (wrap64 (1 + t279)) then (if bt305.1 = 0 then (if bt309.1 = (wrap64 (1 + t279)) then ((impl_Knows.f k bt292.2 bt296.2).bind fun t317 => (if t317 = true then ((impl_Knows.f k bt286.2 bt292.2).bind fun t318 => (some t318)) else (some false))) else (some false)) else (some false)) else (some false)) else (some false)) else (some false))))))))))))) = some r := by first | (rw [hy273]; with_reducible exact H) | (have H2_ := (Option.bind_some _ _).symm.trans H; rw [hy273]; with_reducible exact H2_) | (have H2_ := (Option.bind_some _ _).symm.trans H; with_reducible exact H2_) | with_reducible exact H | (rw [hy273]; exact H) | exact H
   have Ny273 := aM_ hy273
   clear hy273
   obtain ⟨y276, hy276⟩ : ∃ y_ : List Int, y_ = (List.replicate 24 0) := ⟨_, rfl⟩
   replace H : ((laws_at.f l0 1).bind fun t279 => ((impl_Store.f k t269 y273 1 (wrap64 (1 + t279)) false).bind fun bt280 => ((impl_Store.f k bt280.1 bt280.2 2 1 true).bind fun bt286 => ((impl_Load.f k bt286.1 y276 2 0 true).bind fun bt292 => ((impl_Load.f k bt286.1 y276 2 0 false).bind fun bt296 => ((laws_at.f l0 2).bind fun t300 => ((impl_Load.f k bt286.1 bt292.2 1 t300 false).bind fun bt301 => ((impl_Load.f k bt286.1 bt296.2 1 (wrap64 (1 + t300)) false).bind fun bt305 => ((impl_Load.f k bt286.1 bt296.2 1 0 false).bind fun bt309 => ((spec_Load.f k bt286.1 bt292.2 1 t300 false).bind fun bt313 => (if bt292.1 = 1 then (if bt301.1 = (wrap64 (1 + t279)) then (if bt313.1 = (wrap64 (1 + t279)) then (if bt305.1 = 0 then (if bt309.1 = (wrap64 (1 + t279)) then ((impl_Knows.f k bt292.2 bt296.2).bind fun t317 => (if t317 = true then ((impl_Knows.f k bt286.2 bt292.2).bind fun t318 => (some t318)) else (some false))) else (some false)) else (some false)) else (some false)) else (some false)) else (some false)))))))))))) = some r := by first | (rw [hy276]; with_reducible exact H) | (have H2_ := (Option.bind_some _ _).symm.trans H; rw [hy276]; with_reducible exact H2_) | (have H2_ := (Option.bind_some _ _).symm.trans H; with_reducible exact H2_) | with_reducible exact H | (rw [hy276]; exact H) | exact H
   have Ny276 := aM_ hy276
   clear hy276
   replace H := Option.bind_eq_some_iff.mp H
   obtain ⟨t279, A60, H⟩ := H
   replace H : ((impl_Store.f k t269 y273 1 (wrap64 (1 + t279)) false).bind fun bt280 => ((impl_Store.f k bt280.1 bt280.2 2 1 true).bind fun bt286 => ((impl_Load.f k bt286.1 y276 2 0 true).bind fun bt292 => ((impl_Load.f k bt286.1 y276 2 0 false).bind fun bt296 => ((laws_at.f l0 2).bind fun t300 => ((impl_Load.f k bt286.1 bt292.2 1 t300 false).bind fun bt301 => ((impl_Load.f k bt286.1 bt296.2 1 (wrap64 (1 + t300)) false).bind fun bt305 => ((impl_Load.f k bt286.1 bt296.2 1 0 false).bind fun bt309 => ((spec_Load.f k bt286.1 bt292.2 1 t300 false).bind fun bt313 => (if bt292.1 = 1 then (if bt301.1 = (wrap64 (1 + t279)) then (if bt313.1 = (wrap64 (1 + t279)) then (if bt305.1 = 0 then (if bt309.1 = (wrap64 (1 + t279)) then ((impl_Knows.f k bt292.2 bt296.2).bind fun t317 => (if t317 = true then ((impl_Knows.f k bt286.2 bt292.2).bind fun t318 => (some t318)) else (some false))) else (some false)) else (some false)) else (some false)) else (some false)) else (some false))))))))))) = some r := H
   have A6 := aM_ A60
   clear A60
   replace H := Option.bind_eq_some_iff.mp H
   obtain ⟨⟨t280, t283⟩, A70, H⟩ := H
   replace H : ((impl_Store.f k t280 t283 2 1 true).bind fun bt286 => ((impl_Load.f k bt286.1 y276 2 0 true).bind fun bt292 => ((impl_Load.f k bt286.1 y276 2 0 false).bind fun bt296 => ((laws_at.f l0 2).bind fun t300 => ((impl_Load.f k bt286.1 bt292.2 1 t300 false).bind fun bt301 => ((impl_Load.f k bt286.1 bt296.2 1 (wrap64 (1 + t300)) false).bind fun bt305 => ((impl_Load.f k bt286.1 bt296.2 1 0 false).bind fun bt309 => ((spec_Load.f k bt286.1 bt292.2 1 t300 false).bind fun bt313 => (if bt292.1 = 1 then (if bt301.1 = (wrap64 (1 + t279)) then (if bt313.1 = (wrap64 (1 + t279)) then (if bt305.1 = 0 then (if bt309.1 = (wrap64 (1 + t279)) then ((impl_Knows.f k bt292.2 bt296.2).bind fun t317 => (if t317 = true then ((impl_Knows.f k bt286.2 bt292.2).bind fun t318 => (some t318)) else (some false))) else (some false)) else (some false)) else (some false)) else (some false)) else (some false)))))))))) = some r := H
   have A7 := aM_ A70
   clear A70
   replace H := Option.bind_eq_some_iff.mp H
   obtain ⟨⟨t286, t289⟩, A80, H⟩ := H
   replace H : ((impl_Load.f k t286 y276 2 0 true).bind fun bt292 => ((impl_Load.f k t286 y276 2 0 false).bind fun bt296 => ((laws_at.f l0 2).bind fun t300 => ((impl_Load.f k t286 bt292.2 1 t300 false).bind fun bt301 => ((impl_Load.f k t286 bt296.2 1 (wrap64 (1 + t300)) false).bind fun bt305 => ((impl_Load.f k t286 bt296.2 1 0 false).bind fun bt309 => ((spec_Load.f k t286 bt292.2 1 t300 false).bind fun bt313 => (if bt292.1 = 1 then (if bt301.1 = (wrap64 (1 + t279)) then (if bt313.1 = (wrap64 (1 + t279)) then (if bt305.1 = 0 then (if bt309.1 = (wrap64 (1 + t279)) then ((impl_Knows.f k bt292.2 bt296.2).bind fun t317 => (if t317 = true then ((impl_Knows.f k t289 bt292.2).bind fun t318 => (some t318)) else (some false))) else (some false)) else (some false)) else (some false)) else (some false)) else (some false))))))))) = some r := H
   have A8 := aM_ A80
   clear A80
   replace H := Option.bind_eq_some_iff.mp H
   obtain ⟨⟨t292, t293⟩, A90, H⟩ := H
   replace H : ((impl_Load.f k t286 y276 2 0 false).bind fun bt296 => ((laws_at.f l0 2).bind fun t300 => ((impl_Load.f k t286 t293 1 t300 false).bind fun bt301 => ((impl_Load.f k t286 bt296.2 1 (wrap64 (1 + t300)) false).bind fun bt305 => ((impl_Load.f k t286 bt296.2 1 0 false).bind fun bt309 => ((spec_Load.f k t286 t293 1 t300 false).bind fun bt313 => (if t292 = 1 then (if bt301.1 = (wrap64 (1 + t279)) then (if bt313.1 = (wrap64 (1 + t279)) then (if bt305.1 = 0 then (if bt309.1 = (wrap64 (1 + t279)) then ((impl_Knows.f k t293 bt296.2).bind fun t317 => (if t317 = true then ((impl_Knows.f k t289 t293).bind fun t318 => (some t318)) else (some false))) else (some false)) else (some false)) else (some false)) else (some false)) else (some false)))))))) = some r := H
   have A9 := aM_ A90
   clear A90
   replace H := Option.bind_eq_some_iff.mp H
   obtain ⟨⟨t296, t297⟩, A100, H⟩ := H
   replace H : ((laws_at.f l0 2).bind fun t300 => ((impl_Load.f k t286 t293 1 t300 false).bind fun bt301 => ((impl_Load.f k t286 t297 1 (wrap64 (1 + t300)) false).bind fun bt305 => ((impl_Load.f k t286 t297 1 0 false).bind fun bt309 => ((spec_Load.f k t286 t293 1 t300 false).bind fun bt313 => (if t292 = 1 then (if bt301.1 = (wrap64 (1 + t279)) then (if bt313.1 = (wrap64 (1 + t279)) then (if bt305.1 = 0 then (if bt309.1 = (wrap64 (1 + t279)) then ((impl_Knows.f k t293 t297).bind fun t317 => (if t317 = true then ((impl_Knows.f k t289 t293).bind fun t318 => (some t318)) else (some false))) else (some false)) else (some false)) else (some false)) else (some false)) else (some false))))))) = some r := H
   have A10 := aM_ A100
   clear A100
   replace H := Option.bind_eq_some_iff.mp H
   obtain ⟨t300, A110, H⟩ := H
   replace H : ((impl_Load.f k t286 t293 1 t300 false).bind fun bt301 => ((impl_Load.f k t286 t297 1 (wrap64 (1 + t300)) false).bind fun bt305 => ((impl_Load.f k t286 t297 1 0 false).bind fun bt309 => ((spec_Load.f k t286 t293 1 t300 false).bind fun bt313 => (if t292 = 1 then (if bt301.1 = (wrap64 (1 + t279)) then (if bt313.1 = (wrap64 (1 + t279)) then (if bt305.1 = 0 then (if bt309.1 = (wrap64 (1 + t279)) then ((impl_Knows.f k t293 t297).bind fun t317 => (if t317 = true then ((impl_Knows.f k t289 t293).bind fun t318 => (some t318)) else (some false))) else (some false)) else (some false)) else (some false)) else (some false)) else (some false)))))) = some r := H
   have A11 := aM_ A110
   clear A110
   replace H := Option.bind_eq_some_iff.mp H
   obtain ⟨⟨t301, t302⟩, A120, H⟩ := H
   replace H : ((impl_Load.f k t286 t297 1 (wrap64 (1 + t300)) false).bind fun bt305 => ((impl_Load.f k t286 t297 1 0 false).bind fun bt309 => ((spec_Load.f k t286 t293 1 t300 false).bind fun bt313 => (if t292 = 1 then (if t301 = (wrap64 (1 + t279)) then (if bt313.1 = (wrap64 (1 + t279)) then (if bt305.1 = 0 then (if bt309.1 = (wrap64 (1 + t279)) then ((impl_Knows.f k t293 t297).bind fun t317 => (if t317 = true then ((impl_Knows.f k t289 t293).bind fun t318 => (some t318)) else (some false))) else (some false)) else (some false)) else (some false)) else (some false)) else (some false))))) = some r := H
   have A12 := aM_ A120
   clear A120
   replace H := Option.bind_eq_some_iff.mp H
   obtain ⟨⟨t305, t306⟩, A130, H⟩ := H
   replace H : ((impl_Load.f k t286 t297 1 0 false).bind fun bt309 => ((spec_Load.f k t286 t293 1 t300 false).bind fun bt313 => (if t292 = 1 then (if t301 = (wrap64 (1 + t279)) then (if bt313.1 = (wrap64 (1 + t279)) then (if t305 = 0 then (if bt309.1 = (wrap64 (1 + t279)) then ((impl_Knows.f k t293 t297).bind fun t317 => (if t317 = true then ((impl_Knows.f k t289 t293).bind fun t318 => (some t318)) else (some false))) else (some false)) else (some false)) else (some false)) else (some false)) else (some false)))) = some r := H
   have A13 := aM_ A130
   clear A130
   replace H := Option.bind_eq_some_iff.mp H
   obtain ⟨⟨t309, t310⟩, A140, H⟩ := H
   replace H : ((spec_Load.f k t286 t293 1 t300 false).bind fun bt313 => (if t292 = 1 then (if t301 = (wrap64 (1 + t279)) then (if bt313.1 = (wrap64 (1 + t279)) then (if t305 = 0 then (if t309 = (wrap64 (1 + t279)) then ((impl_Knows.f k t293 t297).bind fun t317 => (if t317 = true then ((impl_Knows.f k t289 t293).bind fun t318 => (some t318)) else (some false))) else (some false)) else (some false)) else (some false)) else (some false)) else (some false))) = some r := H
   have A14 := aM_ A140
   clear A140
   replace H := Option.bind_eq_some_iff.mp H
   obtain ⟨⟨t313, t314⟩, A150, H⟩ := H
   replace H : (if t292 = 1 then (if t301 = (wrap64 (1 + t279)) then (if t313 = (wrap64 (1 + t279)) then (if t305 = 0 then (if t309 = (wrap64 (1 + t279)) then ((impl_Knows.f k t293 t297).bind fun t317 => (if t317 = true then ((impl_Knows.f k t289 t293).bind fun t318 => (some t318)) else (some false))) else (some false)) else (some false)) else (some false)) else (some false)) else (some false)) = some r := H
   have A15 := aM_ A150
   clear A150
   by_cases c16 : t292 = 1
   ·rw [if_pos c16] at H
    have c16b0 : (t292 == 1) = true := beq_iff_eq.mpr c16
    have c16b1 : (t292 != 1) = false := bne_eq_false_iff_eq.mpr c16
    clear c16
    by_cases c17 : t301 = (wrap64 (1 + t279))
    ·rw [if_pos c17] at H
     have c17b0 : (t301 == (wrap64 (1 + t279))) = true := beq_iff_eq.mpr c17
     have c17b1 : (t301 != (wrap64 (1 + t279))) = false := bne_eq_false_iff_eq.mpr c17
     clear c17
     by_cases c18 : t313 = (wrap64 (1 + t279))
     ·rw [if_pos c18] at H
      have c18b0 : (t313 == (wrap64 (1 + t279))) = true := beq_iff_eq.mpr c18
      have c18b1 : (t313 != (wrap64 (1 + t279))) = false := bne_eq_false_iff_eq.mpr c18
      clear c18
      by_cases c19 : t305 = 0
      ·rw [if_pos c19] at H
       have c19b0 : (t305 == 0) = true := beq_iff_eq.mpr c19
       have c19b1 : (t305 != 0) = false := bne_eq_false_iff_eq.mpr c19
       clear c19
       by_cases c20 : t309 = (wrap64 (1 + t279))
       ·rw [if_pos c20] at H
        have c20b0 : (t309 == (wrap64 (1 + t279))) = true := beq_iff_eq.mpr c20
        have c20b1 : (t309 != (wrap64 (1 + t279))) = false := bne_eq_false_iff_eq.mpr c20
        clear c20
        replace H := Option.bind_eq_some_iff.mp H
        obtain ⟨t317, A210, H⟩ := H
        replace H : (if t317 = true then ((impl_Knows.f k t289 t293).bind fun t318 => (some t318)) else (some false)) = some r := H
        have A21 := aM_ A210
        clear A210
        by_cases c22 : t317 = true
        ·subst c22
         have H1 : ((impl_Knows.f k t289 t293).bind fun t318 => (some t318)) = some r := by rw [if_pos rfl] at H; exact H
         clear H
         have H := H1
         clear H1
         replace H := Option.bind_eq_some_iff.mp H
         obtain ⟨t318, A230, H⟩ := H
         replace H : (some t318) = some r := H
         have A23 := aM_ A230
         clear A230
         obtain rfl := Option.some.inj H
         go_enter Try.func4, Try.ntmps4
         try go_wp2_with (first | ((with_reducible refine gate_callee (f := 18) rfl ?_); refine gL_ (some 21) Try.func18 #[.slice A0 l0.length c0] ?_; (with_reducible refine (laws_big.calls _ _ l0 false _ ?side1 ?side2 A2.out).mono ?_); (case side1 => exact cS_ HR0.out); (case side2 => exact HC0.out); rintro e w' ⟨rfl, ⟨nd, rfl⟩⟩; refine ⟨_, rfl, ?_⟩) | ((with_reducible refine gate_callee (f := 14) rfl ?_); refine gL_ (some 22) Try.func14 #[] ?_; (with_reducible refine (impl_MemoryNew.calls k  t269 _ A4.out).mono ?_); rintro e w24 ⟨v270, rfl, ho0, hb⟩; refine ⟨_, rfl, ?_⟩; have n0 := aM_ (Kd.N_lower (Kd.N_mono (ok' := fun k_ => True) ho0 (fun k_ hk_ => trivial)) (below_size (gB_ HB.out))); have n1 := aM_ (sT_ HB.out hb); clear HB; have HO271 := n0; have HB := n1; clear n0 n1; (try clear ho0)) | ((with_reducible refine gate_dst (N := 3) rfl ?_); refine bX_ 3 (cs := #[.slice none 0 0]) (t := 24) ?_; intro gb272 hg w25 hbox hb; have n0 := aM_ (Kd.N_below (Kd.N_elderB (by (with_reducible repeat (first | apply Kd.N_alloc | apply Kd.N_drewN | apply Kd.N_drew)); exact HO271.out) gb272 (Nat.le_of_eq hg.symm)) hb); have n1 := aM_ (sT_ HB.out hb); have n2 := aM_ (hbox); have n3 := aM_ (sZ_ hg HB.out); have n4 := aM_ (sZ_ hg HB.out); clear HO271; clear HB; have HO271 := n0; have HB := n1; have BK272 := n2; have GW272 := n3; have GE272 := n4; clear n0 n1 n2 n3 n4; clear hb hbox hg; obtain ⟨Ao26, co26, eo26⟩ := Kd.N_slice HO271.out; subst eo26; have hcz27_0 : w25.cell? ⟨gb272, 0, none⟩ = some (.slice none 0 0) := (blk_cell BK272.out 0).trans rfl; have hfz27_0 := blk_frozen BK272.out 0))
         have n0 : Aside0 (Kd.N (Kd.slice 43 k43) 44 (w25.setCell ⟨gb272, 0, none⟩ (.slice Ao26 t269.length co26)) w.heap.size (fun k_ => k_ ≠ gb272) (.slice Ao26 t269.length co26) t269) := ⟨by (with_reducible repeat (first | apply Kd.N_alloc | apply Kd.N_drewN | apply Kd.N_drew)); exact Kd.N_mono (Kd.N_far (p := ⟨gb272, 0, none⟩) (Kd.N_mono HO271.out (fun k_ hk => (⟨hk, hk.2⟩ : _ ∧ k_ ≠ gb272))) (fun _ hk => hk.2) (.slice Ao26 t269.length co26)) (fun _ hk => hk.1.2)⟩
         have n1 : Aside0 ((w25.setCell ⟨gb272, 0, none⟩ (.slice Ao26 t269.length co26)).heap[gb272]? = some (.cells #[.slice Ao26 t269.length co26] 24 (0, 0))) := ⟨by (with_reducible repeat (first | refine bN_ ?_ _ | refine bD_ ?_ | refine bA_ ?_ _)); refine blk_put (cs := #[.slice none 0 0]) ?_ 0 _ rfl; (with_reducible repeat (first | refine bN_ ?_ _ | refine bD_ ?_ | refine bA_ ?_ _)); exact BK272.out⟩
         have n2 : Aside0 (Below w.heap.size w (w25.setCell ⟨gb272, 0, none⟩ (.slice Ao26 t269.length co26))) := ⟨gW_ HB.out⟩
         (try clear HO271)
         (try clear BK272)
         (try clear HB)
         generalize (w25.setCell ⟨gb272, 0, none⟩ (.slice Ao26 t269.length co26)) = w28 at n0 n1 n2 ⊢
         have HO271 := n0
         have BK272 := n1
         have HB := n2
         clear n0 n1 n2
         have n0 := aM_ (Kd.N_drew HO271.out)
         have n1 := aM_ (blk_drew BK272.out)
         have n2 := aM_ (below_drew1 HB.out)
         clear HO271
         clear BK272
         clear HB
         have HO271 := n0
         have BK272 := n1
         have HB := n2
         clear n0 n1 n2
         refine start_ (n := 4) (S := fun w' => True) (ds := []) (mk_ 4 0) (by kernel_rfl) rfl rfl trivial (fun hHeld => ?_)
         generalize w28.drew = w29 at HO271 BK272 HB hHeld ⊢
         refine join_ (σ := Value × Value) 1 #[true, true, true, false] (fun s_ => [(23, s_.1), (24, s_.2), (4, s_.1)]) (fun s_ w' => (Kd.N (Kd.slice 43 k43) 44 w' w.heap.size (fun k_ => some k_ ≠ (s_.1 : Value).ownBlock ∧ some k_ ≠ (s_.2 : Value).ownBlock ∧ k_ ≠ gb272) (.slice Ao26 t269.length co26) t269) ∧ (Kd.R (Kd.int .i64) 3 w' w.heap.size (fun k_ => some k_ ≠ (s_.2 : Value).ownBlock) s_.1 y273) ∧ (Kd.R (Kd.int .i64) 3 w' w.heap.size (fun k_ => some k_ ≠ (s_.1 : Value).ownBlock) s_.2 y276) ∧ (w'.heap[gb272]? = some (.cells #[.slice Ao26 t269.length co26] 24 (0, 0))) ∧ (Below w.heap.size w w')) ?_ ?_
         rotate_left
         ·intro hCont
          refine two_ (i := 0) (j := 1) (Ni := some 23) (Nj := some 24) #[true, false, false, false] #[false, true, false, false] rfl rfl rfl rfl (by kernel_rfl) (by decide) (by decide) (fun K hK => ?_) (fun K hK => ?_)
          ·skip
           refine Kd.R_make_step (Kd.int .i64) _ 3 (by rfl) (N := 23) rfl 31 _ _ rfl 24 rfl rfl Try.underlying31 (.int .i64 0) 8 info3 rfl (by decide) (by omega) 0 (ok := fun _ => True) (okp := fun _ => True) rfl (fun _ hk => hk) trivial (by omega) (by omega) (Below.refl _ _) (Nat.le_refl _) ?_
           intro v274 w30 ho31 hb hg_ hnew_
           clear hg_ hnew_
           (first | rw [← Ny273.out] at ho31 | (simp only [Int.reduceToNat] at ho31; rw [← Ny273.out] at ho31))
           have n0 := aM_ (Kd.N_elder' (by (with_reducible repeat (first | apply Kd.N_alloc | apply Kd.N_drewN | apply Kd.N_drew)); exact HO271.out) (Kd.R_base ho31) hb)
           have n1 := aM_ (Kd.R_lower ho31 (below_size (gB_ HB.out)))
           have n2 := aM_ (nB_ BK272.out hb)
           have n3 := aM_ (sT_ HB.out hb)
           clear HO271
           clear BK272
           clear HB
           have HO271 := n0
           have HO275 := n1
           have BK272 := n2
           have HB := n3
           clear n0 n1 n2 n3
           clear hb ho31
           refine hK.out _ _ trivial (fun hHeld => ?_)
           clear hK K
           refine norm_ (a' := ?_) ?_ ?_
           rotate_left
           ·show Act.put _ (some 23) _ = _
            simp only [pt_, pn_, sI_, s0_, s1_, i64_w, i32_w]
            rfl
           refine pU_ 2 (some 4) (mk_ 4 5) ?_
           refine oN_ 1 (some 24) (mk_ 4 7) (fun K hK => ?_)
           refine Kd.R_make_step (Kd.int .i64) _ 3 (by rfl) (N := 24) rfl 31 _ _ rfl 24 rfl rfl Try.underlying31 (.int .i64 0) 8 info3 rfl (by decide) (by omega) 0 (ok := fun _ => True) (okp := fun _ => True) rfl (fun _ hk => hk) trivial (by omega) (by omega) (Below.refl _ _) (Nat.le_refl _) ?_
           intro v277 w32 ho33 hb hg_ hnew_
           clear hg_ hnew_
           (first | rw [← Ny276.out] at ho33 | (simp only [Int.reduceToNat] at ho33; rw [← Ny276.out] at ho33))
           have n0 := aM_ (Kd.N_elder' (by (with_reducible repeat (first | apply Kd.N_alloc | apply Kd.N_drewN | apply Kd.N_drew)); exact HO271.out) (Kd.R_base ho33) hb)
           have n1 := aM_ (Kd.R_elder' (by (with_reducible repeat (first | apply rA_ | apply rN_ | apply rD_)); exact HO275.out) (Kd.R_base ho33) hb)
           have n2 := aM_ (Kd.R_lower (Kd.R_new' ho33 (Kd.R_lt (by (with_reducible repeat (first | apply rA_ | apply rN_ | apply rD_)); exact HO275.out))) (below_size (gB_ HB.out)))
           have n3 := aM_ (nB_ BK272.out hb)
           have n4 := aM_ (sT_ HB.out hb)
           clear HO271
           clear HO275
           clear BK272
           clear HB
           have HO271 := n0
           have HO275 := n1
           have HO278 := n2
           have BK272 := n3
           have HB := n4
           clear n0 n1 n2 n3 n4
           clear hb ho33
           refine hK.out _ _ trivial (fun hHeld => ?_)
           clear hK K
           refine norm_ (a' := ?_) ?_ ?_
           rotate_left
           ·show Act.put _ (some 24) _ = _
            simp only [pt_, pn_, sI_, s0_, s1_, i64_w, i32_w]
            rfl
           exact norm_ (by simp only [putAll, Act.put, List.setIfInBounds_toArray, List.set_cons_zero, List.set_cons_succ]) (hCont (v274, v277) _ ⟨(by (with_reducible repeat (first | apply Kd.N_alloc | apply Kd.N_drewN | apply Kd.N_drew)); exact Kd.N_mono HO271.out (fun _ hk => ⟨hk.1.2, ⟨hk.2, hk.1.1⟩⟩)), (by (with_reducible repeat (first | apply rA_ | apply rN_ | apply rD_)); exact Kd.R_mono HO275.out (fun _ hk => hk.2)), (by (with_reducible repeat (first | apply rA_ | apply rN_ | apply rD_)); exact Kd.R_mono HO278.out (fun _ hk => hk.2)), (by (with_reducible repeat (first | refine bN_ ?_ _ | refine bD_ ?_ | refine bA_ ?_ _)); exact BK272.out), (gB_ HB.out)⟩)
          ·skip
           refine Kd.R_make_step (Kd.int .i64) _ 3 (by rfl) (N := 24) rfl 31 _ _ rfl 24 rfl rfl Try.underlying31 (.int .i64 0) 8 info3 rfl (by decide) (by omega) 0 (ok := fun _ => True) (okp := fun _ => True) rfl (fun _ hk => hk) trivial (by omega) (by omega) (Below.refl _ _) (Nat.le_refl _) ?_
           intro v277 w30 ho31 hb hg_ hnew_
           clear hg_ hnew_
           (first | rw [← Ny276.out] at ho31 | (simp only [Int.reduceToNat] at ho31; rw [← Ny276.out] at ho31))
           have n0 := aM_ (Kd.N_elder' (by (with_reducible repeat (first | apply Kd.N_alloc | apply Kd.N_drewN | apply Kd.N_drew)); exact HO271.out) (Kd.R_base ho31) hb)
           have n1 := aM_ (Kd.R_lower ho31 (below_size (gB_ HB.out)))
           have n2 := aM_ (nB_ BK272.out hb)
           have n3 := aM_ (sT_ HB.out hb)
           clear HO271
           clear BK272
           clear HB
           have HO271 := n0
           have HO278 := n1
           have BK272 := n2
           have HB := n3
           clear n0 n1 n2 n3
           clear hb ho31
           refine hK.out _ _ trivial (fun hHeld => ?_)
           clear hK K
           refine norm_ (a' := ?_) ?_ ?_
           rotate_left
           ·show Act.put _ (some 24) _ = _
            simp only [pt_, pn_, sI_, s0_, s1_, i64_w, i32_w]
            rfl
           refine oN_ 0 (some 23) (mk_ 4 3) (fun K hK => ?_)
           refine Kd.R_make_step (Kd.int .i64) _ 3 (by rfl) (N := 23) rfl 31 _ _ rfl 24 rfl rfl Try.underlying31 (.int .i64 0) 8 info3 rfl (by decide) (by omega) 0 (ok := fun _ => True) (okp := fun _ => True) rfl (fun _ hk => hk) trivial (by omega) (by omega) (Below.refl _ _) (Nat.le_refl _) ?_
           intro v274 w32 ho33 hb hg_ hnew_
           clear hg_ hnew_
           (first | rw [← Ny273.out] at ho33 | (simp only [Int.reduceToNat] at ho33; rw [← Ny273.out] at ho33))
           have n0 := aM_ (Kd.N_elder' (by (with_reducible repeat (first | apply Kd.N_alloc | apply Kd.N_drewN | apply Kd.N_drew)); exact HO271.out) (Kd.R_base ho33) hb)
           have n1 := aM_ (Kd.R_elder' (by (with_reducible repeat (first | apply rA_ | apply rN_ | apply rD_)); exact HO278.out) (Kd.R_base ho33) hb)
           have n2 := aM_ (Kd.R_lower (Kd.R_new' ho33 (Kd.R_lt (by (with_reducible repeat (first | apply rA_ | apply rN_ | apply rD_)); exact HO278.out))) (below_size (gB_ HB.out)))
           have n3 := aM_ (nB_ BK272.out hb)
           have n4 := aM_ (sT_ HB.out hb)
           clear HO271
           clear HO278
           clear BK272
           clear HB
           have HO271 := n0
           have HO278 := n1
           have HO275 := n2
           have BK272 := n3
           have HB := n4
           clear n0 n1 n2 n3 n4
           clear hb ho33
           refine hK.out _ _ trivial (fun hHeld => ?_)
           clear hK K
           refine norm_ (a' := ?_) ?_ ?_
           rotate_left
           ·show Act.put _ (some 23) _ = _
            simp only [pt_, pn_, sI_, s0_, s1_, i64_w, i32_w]
            rfl
           refine pU_ 2 (some 4) (mk_ 4 7) ?_
           exact norm_ (by simp only [putAll, Act.put, List.setIfInBounds_toArray, List.set_cons_zero, List.set_cons_succ]) (hCont (v274, v277) _ ⟨(by (with_reducible repeat (first | apply Kd.N_alloc | apply Kd.N_drewN | apply Kd.N_drew)); exact Kd.N_mono HO271.out (fun _ hk => ⟨hk.2, ⟨hk.1.2, hk.1.1⟩⟩)), (by (with_reducible repeat (first | apply rA_ | apply rN_ | apply rD_)); exact Kd.R_mono HO275.out (fun _ hk => hk.2)), (by (with_reducible repeat (first | apply rA_ | apply rN_ | apply rD_)); exact Kd.R_mono HO278.out (fun _ hk => hk.2)), (by (with_reducible repeat (first | refine bN_ ?_ _ | refine bD_ ?_ | refine bA_ ?_ _)); exact BK272.out), (gB_ HB.out)⟩)
         rintro ⟨v274, v277⟩ w34 ⟨h0_, h1_, h2_, h3_, h4_⟩
         have n0 : Aside0 (Kd.N (Kd.slice 43 k43) 44 w34 w.heap.size (fun k_ => some k_ ≠ (v274 : Value).ownBlock ∧ some k_ ≠ (v277 : Value).ownBlock ∧ k_ ≠ gb272) (.slice Ao26 t269.length co26) t269) := ⟨h0_⟩
         have n1 : Aside0 (Kd.R (Kd.int .i64) 3 w34 w.heap.size (fun k_ => some k_ ≠ (v277 : Value).ownBlock) v274 y273) := ⟨h1_⟩
         have n2 : Aside0 (Kd.R (Kd.int .i64) 3 w34 w.heap.size (fun k_ => some k_ ≠ (v274 : Value).ownBlock) v277 y276) := ⟨h2_⟩
         have n3 : Aside0 (w34.heap[gb272]? = some (.cells #[.slice Ao26 t269.length co26] 24 (0, 0))) := ⟨h3_⟩
         have n4 : Aside0 (Below w.heap.size w w34) := ⟨h4_⟩
         clear HO271
         clear BK272
         clear HB
         clear h0_ h1_ h2_ h3_ h4_
         have HO271 := n0
         have HO275 := n1
         have HO278 := n2
         have BK272 := n3
         have HB := n4
         clear n0 n1 n2 n3 n4
         have hHeld := trivial
         refine norm_ (a' := ?_) ?_ ?_
         rotate_left
         ·simp only [putAll, Act.put, List.setIfInBounds_toArray, List.set_cons_zero, List.set_cons_succ]
          rfl
         refine pU_ 3 (some 5) (mk_ 4 15) ?_
         refine done_ (by kernel_rfl) ?_
         try go_wp2_with (first | ((with_reducible refine gate_callee (f := 19) rfl ?_); refine gL_ (some 26) Try.func19 #[.slice A0 l0.length c0, .int .i64 1] ?_; (with_reducible refine (laws_at.calls _ _ l0 1 t279 _ ?side1 ?side2 A6.out).mono ?_); (case side1 => exact cS_ (Kd.C_below HR0.out HB.out)); (case side2 => exact HC0.out); rintro e w' ⟨rfl, ⟨nd, rfl⟩⟩; refine ⟨_, rfl, ?_⟩; (try (rw [drewN_self w34]; generalize hq_ : World.drewN w34 _ = w34; have n0 : Aside0 (Kd.N (Kd.slice 43 k43) 44 w34 w.heap.size (fun k_ => some k_ ≠ (v274 : Value).ownBlock ∧ some k_ ≠ (v277 : Value).ownBlock ∧ k_ ≠ gb272) (.slice Ao26 t269.length co26) t269) := ⟨by rw [← hq_]; exact (by (with_reducible repeat (first | apply Kd.N_alloc | apply Kd.N_drewN | apply Kd.N_drew)); exact HO271.out)⟩; have n1 : Aside0 (Kd.R (Kd.int .i64) 3 w34 w.heap.size (fun k_ => some k_ ≠ (v277 : Value).ownBlock) v274 y273) := ⟨by rw [← hq_]; exact (by (with_reducible repeat (first | apply rA_ | apply rN_ | apply rD_)); exact HO275.out)⟩; have n2 : Aside0 (Kd.R (Kd.int .i64) 3 w34 w.heap.size (fun k_ => some k_ ≠ (v274 : Value).ownBlock) v277 y276) := ⟨by rw [← hq_]; exact (by (with_reducible repeat (first | apply rA_ | apply rN_ | apply rD_)); exact HO278.out)⟩; have n3 : Aside0 (w34.heap[gb272]? = some (.cells #[.slice Ao26 t269.length co26] 24 (0, 0))) := ⟨by rw [← hq_]; exact (by (with_reducible repeat (first | refine bN_ ?_ _ | refine bD_ ?_ | refine bA_ ?_ _)); exact BK272.out)⟩; have n4 : Aside0 (Below w.heap.size w w34) := ⟨by rw [← hq_]; exact (gB_ HB.out)⟩; clear HO271 HO275 HO278 BK272 HB hq_; have HO271 := n0; have HO275 := n1; have HO278 := n2; have BK272 := n3; have HB := n4; clear n0 n1 n2 n3 n4)); have hcz35_0 : w34.cell? ⟨gb272, 0, none⟩ = some (.slice Ao26 t269.length co26) := (blk_cell BK272.out 0).trans rfl; have hfz35_0 := blk_frozen BK272.out 0; obtain ⟨Ao36, co36, eo36⟩ := Kd.R_slice HO275.out; subst eo36) | ((with_reducible refine gate_callee (f := 20) rfl ?_); refine gL_ (some 32) Try.func20 #[.agg #[.slice Ao26 t269.length co26], .slice Ao36 y273.length co36, .int .i64 1, .int .i64 (wrap64 (1 + t279)), .bool false] ?_; (with_reducible refine (impl_Store.calls k _ _ t269 _ _ y273 1 (wrap64 (1 + t279)) false t280 t283 _ ?side1 ?side2 ?side3 ?side4 A7.out).mono ?_); (case side1 => exact cS_ (Kd.N_reads' HO271.out).2.2); (case side2 => exact (Kd.N_reads' HO271.out).2.1); (case side3 => exact cS_ (Kd.R_reads' HO275.out).2.2); (case side4 => exact (Kd.R_reads' HO275.out).2.1); rintro e w37 ⟨v281, v284, rfl, ho0, ho1, hb⟩; refine ⟨_, rfl, ?_⟩; have n0 := aM_ (Kd.N_mono (Kd.N_told (Kd.N_told (Kd.N_old (by (with_reducible repeat (first | apply Kd.N_alloc | apply Kd.N_drewN | apply Kd.N_drew)); exact HO271.out) hb) (Kd.R_base ho0)) (Kd.R_base ho1)) (fun _ h_ => h_.1)); have n1 := aM_ (Kd.R_elder' (by (with_reducible repeat (first | apply rA_ | apply rN_ | apply rD_)); exact HO275.out) (Kd.R_base ho1) hb); have n2 := aM_ (Kd.R_elder' (by (with_reducible repeat (first | apply rA_ | apply rN_ | apply rD_)); exact HO278.out) (Kd.R_base ho1) hb); have n3 := aM_ (Kd.N_lower (Kd.N_mono (ok' := fun k_ => some k_ ≠ (v284 : Value).ownBlock ∧ some k_ ≠ (.slice Ao26 t269.length co26 : Value).ownBlock ∧ some k_ ≠ (.slice Ao36 y273.length co36 : Value).ownBlock ∧ some k_ ≠ (v277 : Value).ownBlock ∧ k_ ≠ gb272) (Kd.R_N (Kd.R_bound ho0)) (fun k_ hk_ => ⟨hk_.1, (Kd.fresh' (Kd.N_lt (by (with_reducible repeat (first | apply Kd.N_alloc | apply Kd.N_drewN | apply Kd.N_drew)); exact HO271.out)) k_ hk_.2.1), (Kd.fresh' (Kd.R_lt (by (with_reducible repeat (first | apply rA_ | apply rN_ | apply rD_)); exact HO275.out)) k_ hk_.2.1), (Kd.fresh' (Kd.R_lt (by (with_reducible repeat (first | apply rA_ | apply rN_ | apply rD_)); exact HO278.out)) k_ hk_.2.1), (Kd.freshB (g := gb272) (o := .cells #[.slice Ao26 t269.length co26] 24 (0, 0)) (by (with_reducible repeat (first | refine bN_ ?_ _ | refine bD_ ?_ | refine bA_ ?_ _)); exact BK272.out) k_ hk_.2.1)⟩)) (below_size (gB_ HB.out))); have n4 := aM_ (Kd.R_lower (Kd.R_new' (Kd.R_new' ho1 (Kd.R_lt (by (with_reducible repeat (first | apply rA_ | apply rN_ | apply rD_)); exact HO275.out))) (Kd.R_lt (by (with_reducible repeat (first | apply rA_ | apply rN_ | apply rD_)); exact HO278.out))) (below_size (gB_ HB.out))); have n5 := aM_ (nB_ BK272.out hb); have n6 := aM_ (sT_ HB.out hb); clear HO271; clear HO275; clear HO278; clear BK272; clear HB; have HO271 := n0; have HO275 := n1; have HO278 := n2; have HO282 := n3; have HO285 := n4; have BK272 := n5; have HB := n6; clear n0 n1 n2 n3 n4 n5 n6; (try clear ho0); (try clear ho1); obtain ⟨Ao38, co38, eo38⟩ := Kd.N_slice HO282.out; subst eo38; have hcz39_0 : w37.cell? ⟨gb272, 0, none⟩ = some (.slice Ao26 t269.length co26) := (blk_cell BK272.out 0).trans rfl; have hfz39_0 := blk_frozen BK272.out 0; obtain ⟨Ao40, co40, eo40⟩ := Kd.R_slice HO285.out; subst eo40) | ((with_reducible refine gate_callee (f := 20) rfl ?_); refine gL_ (some 38) Try.func20 #[.agg #[.slice Ao38 t280.length co38], .slice Ao40 t283.length co40, .int .i64 2, .int .i64 1, .bool true] ?_; (with_reducible refine (impl_Store.calls k _ _ t280 _ _ t283 2 1 true t286 t289 _ ?side1 ?side2 ?side3 ?side4 A8.out).mono ?_); (case side1 => refine (Kd.N_reads' (e := 44) (base := w.heap.size) (ok := fun k_ => (some k_ ≠ (.slice Ao40 t283.length co40 : Value).ownBlock ∧ (some k_ ≠ (.slice Ao26 t269.length co26 : Value).ownBlock ∧ (some k_ ≠ (.slice Ao36 y273.length co36 : Value).ownBlock ∧ (some k_ ≠ (v277 : Value).ownBlock ∧ k_ ≠ gb272))))) (n := t280.length) (c := co38) ?_).2.2; exact (by (with_reducible repeat (first | apply Kd.N_alloc | apply Kd.N_drewN | apply Kd.N_drew)); exact (Kd.N_mono (Kd.N_far (p := ⟨gb272, 0, none⟩) (Kd.N_mono HO282.out (fun k_ hk => (⟨hk, hk.2.2.2.2⟩ : _ ∧ k_ ≠ gb272))) (fun _ hk => hk.2) (.slice Ao38 t280.length co38)) (fun _ h_ => h_.1)))); (case side2 => exact (Kd.N_reads' HO282.out).2.1); (case side3 => refine (Kd.R_reads' (e := 3) (base := w.heap.size) (ok := fun k_ => ((True ∧ some k_ ≠ (.slice Ao36 y273.length co36 : Value).ownBlock) ∧ some k_ ≠ (v277 : Value).ownBlock)) (n := t283.length) (c := co40) ?_).2.2; exact (by (with_reducible repeat (first | apply rA_ | apply rN_ | apply rD_)); exact (Kd.R_mono (Kd.R_far (p := ⟨gb272, 0, none⟩) (Kd.R_types HO285.out BK272.out (by decide)) (fun _ hk => hk.2) (.slice Ao38 t280.length co38)) (fun _ h_ => h_.1)))); (case side4 => exact (Kd.R_reads' HO285.out).2.1); rintro e w41 ⟨v287, v290, rfl, ho0, ho1, hb⟩; refine ⟨_, rfl, ?_⟩; have n0 := aM_ (Kd.N_mono (Kd.N_told (Kd.N_told (Kd.N_old (by (with_reducible repeat (first | apply Kd.N_alloc | apply Kd.N_drewN | apply Kd.N_drew)); exact (Kd.N_mono (Kd.N_far (p := ⟨gb272, 0, none⟩) (Kd.N_mono HO271.out (fun k_ hk => (⟨hk, hk.1.1.2.2⟩ : _ ∧ k_ ≠ gb272))) (fun _ hk => hk.2) (.slice Ao38 t280.length co38)) (fun _ h_ => h_.1))) hb) (Kd.R_base ho0)) (Kd.R_base ho1)) (fun _ h_ => h_.1)); have n1 := aM_ (Kd.R_elder' (by (with_reducible repeat (first | apply rA_ | apply rN_ | apply rD_)); exact (Kd.R_mono (Kd.R_far (p := ⟨gb272, 0, none⟩) (Kd.R_types HO275.out BK272.out (by decide)) (fun _ hk => hk.2) (.slice Ao38 t280.length co38)) (fun _ h_ => h_.1))) (Kd.R_base ho1) hb); have n2 := aM_ (Kd.R_elder' (by (with_reducible repeat (first | apply rA_ | apply rN_ | apply rD_)); exact (Kd.R_mono (Kd.R_far (p := ⟨gb272, 0, none⟩) (Kd.R_types HO278.out BK272.out (by decide)) (fun _ hk => hk.2) (.slice Ao38 t280.length co38)) (fun _ h_ => h_.1))) (Kd.R_base ho1) hb); have n3 := aM_ (Kd.N_mono (Kd.N_told (Kd.N_told (Kd.N_old (by (with_reducible repeat (first | apply Kd.N_alloc | apply Kd.N_drewN | apply Kd.N_drew)); exact (Kd.N_mono (Kd.N_far (p := ⟨gb272, 0, none⟩) (Kd.N_mono HO282.out (fun k_ hk => (⟨hk, hk.2.2.2.2⟩ : _ ∧ k_ ≠ gb272))) (fun _ hk => hk.2) (.slice Ao38 t280.length co38)) (fun _ h_ => h_.1))) hb) (Kd.R_base ho0)) (Kd.R_base ho1)) (fun _ h_ => h_.1)); have n4 := aM_ (Kd.R_elder' (by (with_reducible repeat (first | apply rA_ | apply rN_ | apply rD_)); exact (Kd.R_mono (Kd.R_far (p := ⟨gb272, 0, none⟩) (Kd.R_types HO285.out BK272.out (by decide)) (fun _ hk => hk.2) (.slice Ao38 t280.length co38)) (fun _ h_ => h_.1))) (Kd.R_base ho1) hb); have n5 := aM_ (Kd.N_lower (Kd.N_mono (ok' := fun k_ => some k_ ≠ (v290 : Value).ownBlock ∧ some k_ ≠ (.slice Ao26 t269.length co26 : Value).ownBlock ∧ some k_ ≠ (.slice Ao36 y273.length co36 : Value).ownBlock ∧ some k_ ≠ (v277 : Value).ownBlock ∧ some k_ ≠ (.slice Ao38 t280.length co38 : Value).ownBlock ∧ some k_ ≠ (.slice Ao40 t283.length co40 : Value).ownBlock ∧ k_ ≠ gb272) (Kd.R_N (Kd.R_bound ho0)) (fun k_ hk_ => ⟨hk_.1, (Kd.fresh' (Kd.N_lt (by (with_reducible repeat (first | apply Kd.N_alloc | apply Kd.N_drewN | apply Kd.N_drew)); exact (Kd.N_mono (Kd.N_far (p := ⟨gb272, 0, none⟩) (Kd.N_mono HO271.out (fun k_ hk => (⟨hk, hk.1.1.2.2⟩ : _ ∧ k_ ≠ gb272))) (fun _ hk => hk.2) (.slice Ao38 t280.length co38)) (fun _ h_ => h_.1)))) k_ hk_.2.1), (Kd.fresh' (Kd.R_lt (by (with_reducible repeat (first | apply rA_ | apply rN_ | apply rD_)); exact (Kd.R_mono (Kd.R_far (p := ⟨gb272, 0, none⟩) (Kd.R_types HO275.out BK272.out (by decide)) (fun _ hk => hk.2) (.slice Ao38 t280.length co38)) (fun _ h_ => h_.1)))) k_ hk_.2.1), (Kd.fresh' (Kd.R_lt (by (with_reducible repeat (first | apply rA_ | apply rN_ | apply rD_)); exact (Kd.R_mono (Kd.R_far (p := ⟨gb272, 0, none⟩) (Kd.R_types HO278.out BK272.out (by decide)) (fun _ hk => hk.2) (.slice Ao38 t280.length co38)) (fun _ h_ => h_.1)))) k_ hk_.2.1), (Kd.fresh' (Kd.N_lt (by (with_reducible repeat (first | apply Kd.N_alloc | apply Kd.N_drewN | apply Kd.N_drew)); exact (Kd.N_mono (Kd.N_far (p := ⟨gb272, 0, none⟩) (Kd.N_mono HO282.out (fun k_ hk => (⟨hk, hk.2.2.2.2⟩ : _ ∧ k_ ≠ gb272))) (fun _ hk => hk.2) (.slice Ao38 t280.length co38)) (fun _ h_ => h_.1)))) k_ hk_.2.1), (Kd.fresh' (Kd.R_lt (by (with_reducible repeat (first | apply rA_ | apply rN_ | apply rD_)); exact (Kd.R_mono (Kd.R_far (p := ⟨gb272, 0, none⟩) (Kd.R_types HO285.out BK272.out (by decide)) (fun _ hk => hk.2) (.slice Ao38 t280.length co38)) (fun _ h_ => h_.1)))) k_ hk_.2.1), (Kd.freshB (g := gb272) (o := .cells #[.slice Ao38 t280.length co38] 24 (0, 0)) (by (with_reducible repeat (first | refine bN_ ?_ _ | refine bD_ ?_ | refine bA_ ?_ _)); refine blk_put (cs := #[.slice Ao26 t269.length co26]) ?_ 0 _ rfl; exact rW_ BK272.out) k_ hk_.2.1)⟩)) (below_size (gB_ HB.out))); have n6 := aM_ (Kd.R_lower (Kd.R_new' (Kd.R_new' (Kd.R_new' ho1 (Kd.R_lt (by (with_reducible repeat (first | apply rA_ | apply rN_ | apply rD_)); exact (Kd.R_mono (Kd.R_far (p := ⟨gb272, 0, none⟩) (Kd.R_types HO275.out BK272.out (by decide)) (fun _ hk => hk.2) (.slice Ao38 t280.length co38)) (fun _ h_ => h_.1))))) (Kd.R_lt (by (with_reducible repeat (first | apply rA_ | apply rN_ | apply rD_)); exact (Kd.R_mono (Kd.R_far (p := ⟨gb272, 0, none⟩) (Kd.R_types HO278.out BK272.out (by decide)) (fun _ hk => hk.2) (.slice Ao38 t280.length co38)) (fun _ h_ => h_.1))))) (Kd.R_lt (by (with_reducible repeat (first | apply rA_ | apply rN_ | apply rD_)); exact (Kd.R_mono (Kd.R_far (p := ⟨gb272, 0, none⟩) (Kd.R_types HO285.out BK272.out (by decide)) (fun _ hk => hk.2) (.slice Ao38 t280.length co38)) (fun _ h_ => h_.1))))) (below_size (gB_ HB.out))); have n7 := aM_ (blk_below (g := gb272) (o := .cells #[.slice Ao38 t280.length co38] 24 (0, 0)) (by (with_reducible repeat (first | refine bN_ ?_ _ | refine bD_ ?_ | refine bA_ ?_ _)); refine blk_put (cs := #[.slice Ao26 t269.length co26]) ?_ 0 _ rfl; exact rW_ BK272.out) hb); have n8 := aM_ (sT_ HB.out hb); clear HO271; clear HO275; clear HO278; clear HO282; clear HO285; clear BK272; clear HB; have HO271 := n0; have HO275 := n1; have HO278 := n2; have HO282 := n3; have HO285 := n4; have HO288 := n5; have HO291 := n6; have BK272 := n7; have HB := n8; clear n0 n1 n2 n3 n4 n5 n6 n7 n8; (try clear ho0); (try clear ho1); obtain ⟨Ao42, co42, eo42⟩ := Kd.N_slice HO288.out; subst eo42; have hcz43_0 : w41.cell? ⟨gb272, 0, none⟩ = some (.slice Ao38 t280.length co38) := (blk_cell BK272.out 0).trans rfl; have hfz43_0 := blk_frozen BK272.out 0; obtain ⟨Ao44, co44, eo44⟩ := Kd.R_slice HO278.out; subst eo44) | ((with_reducible refine gate_callee (f := 21) rfl ?_); refine gL_ (some 44) Try.func21 #[.agg #[.slice Ao42 t286.length co42], .slice Ao44 y276.length co44, .int .i64 2, .int .i64 0, .bool true] ?_; (with_reducible refine (impl_Load.calls k _ _ t286 _ _ y276 2 0 true t292 t293 _ ?side1 ?side2 ?side3 ?side4 A9.out).mono ?_); (case side1 => refine (Kd.N_reads' (e := 44) (base := w.heap.size) (ok := fun k_ => (some k_ ≠ (v290 : Value).ownBlock ∧ (some k_ ≠ (.slice Ao26 t269.length co26 : Value).ownBlock ∧ (some k_ ≠ (.slice Ao36 y273.length co36 : Value).ownBlock ∧ (some k_ ≠ (.slice Ao44 y276.length co44 : Value).ownBlock ∧ (some k_ ≠ (.slice Ao38 t280.length co38 : Value).ownBlock ∧ (some k_ ≠ (.slice Ao40 t283.length co40 : Value).ownBlock ∧ k_ ≠ gb272))))))) (n := t286.length) (c := co42) ?_).2.2; exact (by (with_reducible repeat (first | apply Kd.N_alloc | apply Kd.N_drewN | apply Kd.N_drew)); exact (Kd.N_mono (Kd.N_far (p := ⟨gb272, 0, none⟩) (Kd.N_mono HO288.out (fun k_ hk => (⟨hk, hk.2.2.2.2.2.2⟩ : _ ∧ k_ ≠ gb272))) (fun _ hk => hk.2) (.slice Ao42 t286.length co42)) (fun _ h_ => h_.1)))); (case side2 => exact (Kd.N_reads' HO288.out).2.1); (case side3 => refine (Kd.R_reads' (e := 3) (base := w.heap.size) (ok := fun k_ => ((some k_ ≠ (.slice Ao36 y273.length co36 : Value).ownBlock ∧ some k_ ≠ (.slice Ao40 t283.length co40 : Value).ownBlock) ∧ some k_ ≠ (v290 : Value).ownBlock)) (n := y276.length) (c := co44) ?_).2.2; exact (by (with_reducible repeat (first | apply rA_ | apply rN_ | apply rD_)); exact (Kd.R_mono (Kd.R_far (p := ⟨gb272, 0, none⟩) (Kd.R_types HO278.out BK272.out (by decide)) (fun _ hk => hk.2) (.slice Ao42 t286.length co42)) (fun _ h_ => h_.1)))); (case side4 => exact (Kd.R_reads' HO278.out).2.1); rintro e w45 ⟨v294, rfl, ho0, hb⟩; refine ⟨_, rfl, ?_⟩; have n0 := aM_ (Kd.N_elder' (by (with_reducible repeat (first | apply Kd.N_alloc | apply Kd.N_drewN | apply Kd.N_drew)); exact (Kd.N_mono (Kd.N_far (p := ⟨gb272, 0, none⟩) (Kd.N_mono HO271.out (fun k_ hk => (⟨hk, hk.1.1.1.1.2.2⟩ : _ ∧ k_ ≠ gb272))) (fun _ hk => hk.2) (.slice Ao42 t286.length co42)) (fun _ h_ => h_.1))) (Kd.R_base ho0) hb); have n1 := aM_ (Kd.R_elder' (by (with_reducible repeat (first | apply rA_ | apply rN_ | apply rD_)); exact (Kd.R_mono (Kd.R_far (p := ⟨gb272, 0, none⟩) (Kd.R_types HO275.out BK272.out (by decide)) (fun _ hk => hk.2) (.slice Ao42 t286.length co42)) (fun _ h_ => h_.1))) (Kd.R_base ho0) hb); have n2 := aM_ (Kd.R_elder' (by (with_reducible repeat (first | apply rA_ | apply rN_ | apply rD_)); exact (Kd.R_mono (Kd.R_far (p := ⟨gb272, 0, none⟩) (Kd.R_types HO278.out BK272.out (by decide)) (fun _ hk => hk.2) (.slice Ao42 t286.length co42)) (fun _ h_ => h_.1))) (Kd.R_base ho0) hb); have n3 := aM_ (Kd.N_elder' (by (with_reducible repeat (first | apply Kd.N_alloc | apply Kd.N_drewN | apply Kd.N_drew)); exact (Kd.N_mono (Kd.N_far (p := ⟨gb272, 0, none⟩) (Kd.N_mono HO282.out (fun k_ hk => (⟨hk, hk.1.1.2.2.2.2⟩ : _ ∧ k_ ≠ gb272))) (fun _ hk => hk.2) (.slice Ao42 t286.length co42)) (fun _ h_ => h_.1))) (Kd.R_base ho0) hb); have n4 := aM_ (Kd.R_elder' (by (with_reducible repeat (first | apply rA_ | apply rN_ | apply rD_)); exact (Kd.R_mono (Kd.R_far (p := ⟨gb272, 0, none⟩) (Kd.R_types HO285.out BK272.out (by decide)) (fun _ hk => hk.2) (.slice Ao42 t286.length co42)) (fun _ h_ => h_.1))) (Kd.R_base ho0) hb); have n5 := aM_ (Kd.N_elder' (by (with_reducible repeat (first | apply Kd.N_alloc | apply Kd.N_drewN | apply Kd.N_drew)); exact (Kd.N_mono (Kd.N_far (p := ⟨gb272, 0, none⟩) (Kd.N_mono HO288.out (fun k_ hk => (⟨hk, hk.2.2.2.2.2.2⟩ : _ ∧ k_ ≠ gb272))) (fun _ hk => hk.2) (.slice Ao42 t286.length co42)) (fun _ h_ => h_.1))) (Kd.R_base ho0) hb); have n6 := aM_ (Kd.R_elder' (by (with_reducible repeat (first | apply rA_ | apply rN_ | apply rD_)); exact (Kd.R_mono (Kd.R_far (p := ⟨gb272, 0, none⟩) (Kd.R_types HO291.out BK272.out (by decide)) (fun _ hk => hk.2) (.slice Ao42 t286.length co42)) (fun _ h_ => h_.1))) (Kd.R_base ho0) hb); have n7 := aM_ (Kd.R_lower (Kd.R_new' (Kd.R_new' (Kd.R_new' (Kd.R_new' ho0 (Kd.R_lt (by (with_reducible repeat (first | apply rA_ | apply rN_ | apply rD_)); exact (Kd.R_mono (Kd.R_far (p := ⟨gb272, 0, none⟩) (Kd.R_types HO275.out BK272.out (by decide)) (fun _ hk => hk.2) (.slice Ao42 t286.length co42)) (fun _ h_ => h_.1))))) (Kd.R_lt (by (with_reducible repeat (first | apply rA_ | apply rN_ | apply rD_)); exact (Kd.R_mono (Kd.R_far (p := ⟨gb272, 0, none⟩) (Kd.R_types HO278.out BK272.out (by decide)) (fun _ hk => hk.2) (.slice Ao42 t286.length co42)) (fun _ h_ => h_.1))))) (Kd.R_lt (by (with_reducible repeat (first | apply rA_ | apply rN_ | apply rD_)); exact (Kd.R_mono (Kd.R_far (p := ⟨gb272, 0, none⟩) (Kd.R_types HO285.out BK272.out (by decide)) (fun _ hk => hk.2) (.slice Ao42 t286.length co42)) (fun _ h_ => h_.1))))) (Kd.R_lt (by (with_reducible repeat (first | apply rA_ | apply rN_ | apply rD_)); exact (Kd.R_mono (Kd.R_far (p := ⟨gb272, 0, none⟩) (Kd.R_types HO291.out BK272.out (by decide)) (fun _ hk => hk.2) (.slice Ao42 t286.length co42)) (fun _ h_ => h_.1))))) (below_size (gB_ HB.out))); have n8 := aM_ (blk_below (g := gb272) (o := .cells #[.slice Ao42 t286.length co42] 24 (0, 0)) (by (with_reducible repeat (first | refine bN_ ?_ _ | refine bD_ ?_ | refine bA_ ?_ _)); refine blk_put (cs := #[.slice Ao38 t280.length co38]) ?_ 0 _ rfl; exact rW_ BK272.out) hb); have n9 := aM_ (sT_ HB.out hb); clear HO271; clear HO275; clear HO278; clear HO282; clear HO285; clear HO288; clear HO291; clear BK272; clear HB; have HO271 := n0; have HO275 := n1; have HO278 := n2; have HO282 := n3; have HO285 := n4; have HO288 := n5; have HO291 := n6; have HO295 := n7; have BK272 := n8; have HB := n9; clear n0 n1 n2 n3 n4 n5 n6 n7 n8 n9; (try clear ho0); have hcz46_0 : w45.cell? ⟨gb272, 0, none⟩ = some (.slice Ao42 t286.length co42) := (blk_cell BK272.out 0).trans rfl; have hfz46_0 := blk_frozen BK272.out 0) | ((with_reducible refine gate_callee (f := 21) rfl ?_); refine gL_ (some 50) Try.func21 #[.agg #[.slice Ao42 t286.length co42], .slice Ao44 y276.length co44, .int .i64 2, .int .i64 0, .bool false] ?_; (with_reducible refine (impl_Load.calls k _ _ t286 _ _ y276 2 0 false t296 t297 _ ?side1 ?side2 ?side3 ?side4 A10.out).mono ?_); (case side1 => exact cS_ (Kd.N_reads' HO288.out).2.2); (case side2 => exact (Kd.N_reads' HO288.out).2.1); (case side3 => exact cS_ (Kd.R_reads' HO278.out).2.2); (case side4 => exact (Kd.R_reads' HO278.out).2.1); rintro e w47 ⟨v298, rfl, ho0, hb⟩; refine ⟨_, rfl, ?_⟩; have n0 := aM_ (Kd.N_elder' (by (with_reducible repeat (first | apply Kd.N_alloc | apply Kd.N_drewN | apply Kd.N_drew)); exact HO271.out) (Kd.R_base ho0) hb); have n1 := aM_ (Kd.R_elder' (by (with_reducible repeat (first | apply rA_ | apply rN_ | apply rD_)); exact HO275.out) (Kd.R_base ho0) hb); have n2 := aM_ (Kd.R_elder' (by (with_reducible repeat (first | apply rA_ | apply rN_ | apply rD_)); exact HO278.out) (Kd.R_base ho0) hb); have n3 := aM_ (Kd.N_elder' (by (with_reducible repeat (first | apply Kd.N_alloc | apply Kd.N_drewN | apply Kd.N_drew)); exact HO282.out) (Kd.R_base ho0) hb); have n4 := aM_ (Kd.R_elder' (by (with_reducible repeat (first | apply rA_ | apply rN_ | apply rD_)); exact HO285.out) (Kd.R_base ho0) hb); have n5 := aM_ (Kd.N_elder' (by (with_reducible repeat (first | apply Kd.N_alloc | apply Kd.N_drewN | apply Kd.N_drew)); exact HO288.out) (Kd.R_base ho0) hb); have n6 := aM_ (Kd.R_elder' (by (with_reducible repeat (first | apply rA_ | apply rN_ | apply rD_)); exact HO291.out) (Kd.R_base ho0) hb); have n7 := aM_ (Kd.R_elder' (by (with_reducible repeat (first | apply rA_ | apply rN_ | apply rD_)); exact HO295.out) (Kd.R_base ho0) hb); have n8 := aM_ (Kd.R_lower (Kd.R_new' (Kd.R_new' (Kd.R_new' (Kd.R_new' (Kd.R_new' ho0 (Kd.R_lt (by (with_reducible repeat (first | apply rA_ | apply rN_ | apply rD_)); exact HO275.out))) (Kd.R_lt (by (with_reducible repeat (first | apply rA_ | apply rN_ | apply rD_)); exact HO278.out))) (Kd.R_lt (by (with_reducible repeat (first | apply rA_ | apply rN_ | apply rD_)); exact HO285.out))) (Kd.R_lt (by (with_reducible repeat (first | apply rA_ | apply rN_ | apply rD_)); exact HO291.out))) (Kd.R_lt (by (with_reducible repeat (first | apply rA_ | apply rN_ | apply rD_)); exact HO295.out))) (below_size (gB_ HB.out))); have n9 := aM_ (nB_ BK272.out hb); have n10 := aM_ (sT_ HB.out hb); clear HO271; clear HO275; clear HO278; clear HO282; clear HO285; clear HO288; clear HO291; clear HO295; clear BK272; clear HB; have HO271 := n0; have HO275 := n1; have HO278 := n2; have HO282 := n3; have HO285 := n4; have HO288 := n5; have HO291 := n6; have HO295 := n7; have HO299 := n8; have BK272 := n9; have HB := n10; clear n0 n1 n2 n3 n4 n5 n6 n7 n8 n9 n10; (try clear ho0)) | ((with_reducible refine gate_callee (f := 19) rfl ?_); refine gL_ (some 54) Try.func19 #[.slice A0 l0.length c0, .int .i64 2] ?_; (with_reducible refine (laws_at.calls _ _ l0 2 t300 _ ?side1 ?side2 A11.out).mono ?_); (case side1 => exact cS_ (Kd.C_below HR0.out HB.out)); (case side2 => exact HC0.out); rintro e w' ⟨rfl, ⟨nd, rfl⟩⟩; refine ⟨_, rfl, ?_⟩; have hcz48_0 : w47.cell? ⟨gb272, 0, none⟩ = some (.slice Ao42 t286.length co42) := (blk_cell BK272.out 0).trans rfl; have hfz48_0 := blk_frozen BK272.out 0; obtain ⟨Ao49, co49, eo49⟩ := Kd.R_slice HO295.out; subst eo49) | ((with_reducible refine gate_callee (f := 21) rfl ?_); refine gL_ (some 59) Try.func21 #[.agg #[.slice Ao42 t286.length co42], .slice Ao49 t293.length co49, .int .i64 1, .int .i64 t300, .bool false] ?_; (with_reducible refine (impl_Load.calls k _ _ t286 _ _ t293 1 t300 false t301 t302 _ ?side1 ?side2 ?side3 ?side4 A12.out).mono ?_); (case side1 => exact cS_ (Kd.N_reads' HO288.out).2.2); (case side2 => exact (Kd.N_reads' HO288.out).2.1); (case side3 => exact cS_ (Kd.R_reads' HO295.out).2.2); (case side4 => exact (Kd.R_reads' HO295.out).2.1); rintro e w50 ⟨v303, rfl, ho0, hb⟩; refine ⟨_, rfl, ?_⟩; have n0 := aM_ (Kd.N_elder' (by (with_reducible repeat (first | apply Kd.N_alloc | apply Kd.N_drewN | apply Kd.N_drew)); exact HO271.out) (Kd.R_base ho0) hb); have n1 := aM_ (Kd.R_elder' (by (with_reducible repeat (first | apply rA_ | apply rN_ | apply rD_)); exact HO275.out) (Kd.R_base ho0) hb); have n2 := aM_ (Kd.R_elder' (by (with_reducible repeat (first | apply rA_ | apply rN_ | apply rD_)); exact HO278.out) (Kd.R_base ho0) hb); have n3 := aM_ (Kd.N_elder' (by (with_reducible repeat (first | apply Kd.N_alloc | apply Kd.N_drewN | apply Kd.N_drew)); exact HO282.out) (Kd.R_base ho0) hb); have n4 := aM_ (Kd.R_elder' (by (with_reducible repeat (first | apply rA_ | apply rN_ | apply rD_)); exact HO285.out) (Kd.R_base ho0) hb); have n5 := aM_ (Kd.N_elder' (by (with_reducible repeat (first | apply Kd.N_alloc | apply Kd.N_drewN | apply Kd.N_drew)); exact HO288.out) (Kd.R_base ho0) hb); have n6 := aM_ (Kd.R_elder' (by (with_reducible repeat (first | apply rA_ | apply rN_ | apply rD_)); exact HO291.out) (Kd.R_base ho0) hb); have n7 := aM_ (Kd.R_elder' (by (with_reducible repeat (first | apply rA_ | apply rN_ | apply rD_)); exact HO295.out) (Kd.R_base ho0) hb); have n8 := aM_ (Kd.R_elder' (by (with_reducible repeat (first | apply rA_ | apply rN_ | apply rD_)); exact HO299.out) (Kd.R_base ho0) hb); have n9 := aM_ (Kd.R_lower (Kd.R_new' (Kd.R_new' (Kd.R_new' (Kd.R_new' (Kd.R_new' (Kd.R_new' ho0 (Kd.R_lt (by (with_reducible repeat (first | apply rA_ | apply rN_ | apply rD_)); exact HO275.out))) (Kd.R_lt (by (with_reducible repeat (first | apply rA_ | apply rN_ | apply rD_)); exact HO278.out))) (Kd.R_lt (by (with_reducible repeat (first | apply rA_ | apply rN_ | apply rD_)); exact HO285.out))) (Kd.R_lt (by (with_reducible repeat (first | apply rA_ | apply rN_ | apply rD_)); exact HO291.out))) (Kd.R_lt (by (with_reducible repeat (first | apply rA_ | apply rN_ | apply rD_)); exact HO295.out))) (Kd.R_lt (by (with_reducible repeat (first | apply rA_ | apply rN_ | apply rD_)); exact HO299.out))) (below_size (gB_ HB.out))); have n10 := aM_ (nB_ BK272.out hb); have n11 := aM_ (sT_ HB.out hb); clear HO271; clear HO275; clear HO278; clear HO282; clear HO285; clear HO288; clear HO291; clear HO295; clear HO299; clear BK272; clear HB; have HO271 := n0; have HO275 := n1; have HO278 := n2; have HO282 := n3; have HO285 := n4; have HO288 := n5; have HO291 := n6; have HO295 := n7; have HO299 := n8; have HO304 := n9; have BK272 := n10; have HB := n11; clear n0 n1 n2 n3 n4 n5 n6 n7 n8 n9 n10 n11; (try clear ho0); have hcz51_0 : w50.cell? ⟨gb272, 0, none⟩ = some (.slice Ao42 t286.length co42) := (blk_cell BK272.out 0).trans rfl; have hfz51_0 := blk_frozen BK272.out 0; obtain ⟨Ao52, co52, eo52⟩ := Kd.R_slice HO299.out; subst eo52) | ((with_reducible refine gate_callee (f := 21) rfl ?_); refine gL_ (some 67) Try.func21 #[.agg #[.slice Ao42 t286.length co42], .slice Ao52 t297.length co52, .int .i64 1, .int .i64 (wrap64 (1 + t300)), .bool false] ?_; (with_reducible refine (impl_Load.calls k _ _ t286 _ _ t297 1 (wrap64 (1 + t300)) false t305 t306 _ ?side1 ?side2 ?side3 ?side4 A13.out).mono ?_); (case side1 => exact cS_ (Kd.N_reads' HO288.out).2.2); (case side2 => exact (Kd.N_reads' HO288.out).2.1); (case side3 => exact cS_ (Kd.R_reads' HO299.out).2.2); (case side4 => exact (Kd.R_reads' HO299.out).2.1); rintro e w53 ⟨v307, rfl, ho0, hb⟩; refine ⟨_, rfl, ?_⟩; have n0 := aM_ (Kd.N_elder' (by (with_reducible repeat (first | apply Kd.N_alloc | apply Kd.N_drewN | apply Kd.N_drew)); exact HO271.out) (Kd.R_base ho0) hb); have n1 := aM_ (Kd.R_elder' (by (with_reducible repeat (first | apply rA_ | apply rN_ | apply rD_)); exact HO275.out) (Kd.R_base ho0) hb); have n2 := aM_ (Kd.R_elder' (by (with_reducible repeat (first | apply rA_ | apply rN_ | apply rD_)); exact HO278.out) (Kd.R_base ho0) hb); have n3 := aM_ (Kd.N_elder' (by (with_reducible repeat (first | apply Kd.N_alloc | apply Kd.N_drewN | apply Kd.N_drew)); exact HO282.out) (Kd.R_base ho0) hb); have n4 := aM_ (Kd.R_elder' (by (with_reducible repeat (first | apply rA_ | apply rN_ | apply rD_)); exact HO285.out) (Kd.R_base ho0) hb); have n5 := aM_ (Kd.N_elder' (by (with_reducible repeat (first | apply Kd.N_alloc | apply Kd.N_drewN | apply Kd.N_drew)); exact HO288.out) (Kd.R_base ho0) hb); have n6 := aM_ (Kd.R_elder' (by (with_reducible repeat (first | apply rA_ | apply rN_ | apply rD_)); exact HO291.out) (Kd.R_base ho0) hb); have n7 := aM_ (Kd.R_elder' (by (with_reducible repeat (first | apply rA_ | apply rN_ | apply rD_)); exact HO295.out) (Kd.R_base ho0) hb); have n8 := aM_ (Kd.R_elder' (by (with_reducible repeat (first | apply rA_ | apply rN_ | apply rD_)); exact HO299.out) (Kd.R_base ho0) hb); have n9 := aM_ (Kd.R_elder' (by (with_reducible repeat (first | apply rA_ | apply rN_ | apply rD_)); exact HO304.out) (Kd.R_base ho0) hb); have n10 := aM_ (Kd.R_lower (Kd.R_new' (Kd.R_new' (Kd.R_new' (Kd.R_new' (Kd.R_new' (Kd.R_new' (Kd.R_new' ho0 (Kd.R_lt (by (with_reducible repeat (first | apply rA_ | apply rN_ | apply rD_)); exact HO275.out))) (Kd.R_lt (by (with_reducible repeat (first | apply rA_ | apply rN_ | apply rD_)); exact HO278.out))) (Kd.R_lt (by (with_reducible repeat (first | apply rA_ | apply rN_ | apply rD_)); exact HO285.out))) (Kd.R_lt (by (with_reducible repeat (first | apply rA_ | apply rN_ | apply rD_)); exact HO291.out))) (Kd.R_lt (by (with_reducible repeat (first | apply rA_ | apply rN_ | apply rD_)); exact HO295.out))) (Kd.R_lt (by (with_reducible repeat (first | apply rA_ | apply rN_ | apply rD_)); exact HO299.out))) (Kd.R_lt (by (with_reducible repeat (first | apply rA_ | apply rN_ | apply rD_)); exact HO304.out))) (below_size (gB_ HB.out))); have n11 := aM_ (nB_ BK272.out hb); have n12 := aM_ (sT_ HB.out hb); clear HO271; clear HO275; clear HO278; clear HO282; clear HO285; clear HO288; clear HO291; clear HO295; clear HO299; clear HO304; clear BK272; clear HB; have HO271 := n0; have HO275 := n1; have HO278 := n2; have HO282 := n3; have HO285 := n4; have HO288 := n5; have HO291 := n6; have HO295 := n7; have HO299 := n8; have HO304 := n9; have HO308 := n10; have BK272 := n11; have HB := n12; clear n0 n1 n2 n3 n4 n5 n6 n7 n8 n9 n10 n11 n12; (try clear ho0); have hcz54_0 : w53.cell? ⟨gb272, 0, none⟩ = some (.slice Ao42 t286.length co42) := (blk_cell BK272.out 0).trans rfl; have hfz54_0 := blk_frozen BK272.out 0) | ((with_reducible refine gate_callee (f := 21) rfl ?_); refine gL_ (some 73) Try.func21 #[.agg #[.slice Ao42 t286.length co42], .slice Ao52 t297.length co52, .int .i64 1, .int .i64 0, .bool false] ?_; (with_reducible refine (impl_Load.calls k _ _ t286 _ _ t297 1 0 false t309 t310 _ ?side1 ?side2 ?side3 ?side4 A14.out).mono ?_); (case side1 => exact cS_ (Kd.N_reads' HO288.out).2.2); (case side2 => exact (Kd.N_reads' HO288.out).2.1); (case side3 => exact cS_ (Kd.R_reads' HO299.out).2.2); (case side4 => exact (Kd.R_reads' HO299.out).2.1); rintro e w55 ⟨v311, rfl, ho0, hb⟩; refine ⟨_, rfl, ?_⟩; have n0 := aM_ (Kd.N_elder' (by (with_reducible repeat (first | apply Kd.N_alloc | apply Kd.N_drewN | apply Kd.N_drew)); exact HO271.out) (Kd.R_base ho0) hb); have n1 := aM_ (Kd.R_elder' (by (with_reducible repeat (first | apply rA_ | apply rN_ | apply rD_)); exact HO275.out) (Kd.R_base ho0) hb); have n2 := aM_ (Kd.R_elder' (by (with_reducible repeat (first | apply rA_ | apply rN_ | apply rD_)); exact HO278.out) (Kd.R_base ho0) hb); have n3 := aM_ (Kd.N_elder' (by (with_reducible repeat (first | apply Kd.N_alloc | apply Kd.N_drewN | apply Kd.N_drew)); exact HO282.out) (Kd.R_base ho0) hb); have n4 := aM_ (Kd.R_elder' (by (with_reducible repeat (first | apply rA_ | apply rN_ | apply rD_)); exact HO285.out) (Kd.R_base ho0) hb); have n5 := aM_ (Kd.N_elder' (by (with_reducible repeat (first | apply Kd.N_alloc | apply Kd.N_drewN | apply Kd.N_drew)); exact HO288.out) (Kd.R_base ho0) hb); have n6 := aM_ (Kd.R_elder' (by (with_reducible repeat (first | apply rA_ | apply rN_ | apply rD_)); exact HO291.out) (Kd.R_base ho0) hb); have n7 := aM_ (Kd.R_elder' (by (with_reducible repeat (first | apply rA_ | apply rN_ | apply rD_)); exact HO295.out) (Kd.R_base ho0) hb); have n8 := aM_ (Kd.R_elder' (by (with_reducible repeat (first | apply rA_ | apply rN_ | apply rD_)); exact HO299.out) (Kd.R_base ho0) hb); have n9 := aM_ (Kd.R_elder' (by (with_reducible repeat (first | apply rA_ | apply rN_ | apply rD_)); exact HO304.out) (Kd.R_base ho0) hb); have n10 := aM_ (Kd.R_elder' (by (with_reducible repeat (first | apply rA_ | apply rN_ | apply rD_)); exact HO308.out) (Kd.R_base ho0) hb); have n11 := aM_ (Kd.R_lower (Kd.R_new' (Kd.R_new' (Kd.R_new' (Kd.R_new' (Kd.R_new' (Kd.R_new' (Kd.R_new' (Kd.R_new' ho0 (Kd.R_lt (by (with_reducible repeat (first | apply rA_ | apply rN_ | apply rD_)); exact HO275.out))) (Kd.R_lt (by (with_reducible repeat (first | apply rA_ | apply rN_ | apply rD_)); exact HO278.out))) (Kd.R_lt (by (with_reducible repeat (first | apply rA_ | apply rN_ | apply rD_)); exact HO285.out))) (Kd.R_lt (by (with_reducible repeat (first | apply rA_ | apply rN_ | apply rD_)); exact HO291.out))) (Kd.R_lt (by (with_reducible repeat (first | apply rA_ | apply rN_ | apply rD_)); exact HO295.out))) (Kd.R_lt (by (with_reducible repeat (first | apply rA_ | apply rN_ | apply rD_)); exact HO299.out))) (Kd.R_lt (by (with_reducible repeat (first | apply rA_ | apply rN_ | apply rD_)); exact HO304.out))) (Kd.R_lt (by (with_reducible repeat (first | apply rA_ | apply rN_ | apply rD_)); exact HO308.out))) (below_size (gB_ HB.out))); have n12 := aM_ (nB_ BK272.out hb); have n13 := aM_ (sT_ HB.out hb); clear HO271; clear HO275; clear HO278; clear HO282; clear HO285; clear HO288; clear HO291; clear HO295; clear HO299; clear HO304; clear HO308; clear BK272; clear HB; have HO271 := n0; have HO275 := n1; have HO278 := n2; have HO282 := n3; have HO285 := n4; have HO288 := n5; have HO291 := n6; have HO295 := n7; have HO299 := n8; have HO304 := n9; have HO308 := n10; have HO312 := n11; have BK272 := n12; have HB := n13; clear n0 n1 n2 n3 n4 n5 n6 n7 n8 n9 n10 n11 n12 n13; (try clear ho0); have hcz56_0 : w55.cell? ⟨gb272, 0, none⟩ = some (.slice Ao42 t286.length co42) := (blk_cell BK272.out 0).trans rfl; have hfz56_0 := blk_frozen BK272.out 0) | ((with_reducible refine gate_callee (f := 22) rfl ?_); refine gL_ (some 80) Try.func22 #[.agg #[.slice Ao42 t286.length co42], .slice Ao49 t293.length co49, .int .i64 1, .int .i64 t300, .bool false] ?_; (with_reducible refine (spec_Load.calls k _ _ t286 _ _ t293 1 t300 false t313 t314 _ ?side1 ?side2 ?side3 ?side4 A15.out).mono ?_); (case side1 => exact cS_ (Kd.N_reads' HO288.out).2.2); (case side2 => exact (Kd.N_reads' HO288.out).2.1); (case side3 => exact cS_ (Kd.R_reads' HO295.out).2.2); (case side4 => exact (Kd.R_reads' HO295.out).2.1); rintro e w57 ⟨v315, rfl, ho0, hb⟩; refine ⟨_, rfl, ?_⟩; have n0 := aM_ (Kd.N_elder' (by (with_reducible repeat (first | apply Kd.N_alloc | apply Kd.N_drewN | apply Kd.N_drew)); exact HO271.out) (Kd.R_base ho0) hb); have n1 := aM_ (Kd.R_elder' (by (with_reducible repeat (first | apply rA_ | apply rN_ | apply rD_)); exact HO275.out) (Kd.R_base ho0) hb); have n2 := aM_ (Kd.R_elder' (by (with_reducible repeat (first | apply rA_ | apply rN_ | apply rD_)); exact HO278.out) (Kd.R_base ho0) hb); have n3 := aM_ (Kd.N_elder' (by (with_reducible repeat (first | apply Kd.N_alloc | apply Kd.N_drewN | apply Kd.N_drew)); exact HO282.out) (Kd.R_base ho0) hb); have n4 := aM_ (Kd.R_elder' (by (with_reducible repeat (first | apply rA_ | apply rN_ | apply rD_)); exact HO285.out) (Kd.R_base ho0) hb); have n5 := aM_ (Kd.N_elder' (by (with_reducible repeat (first | apply Kd.N_alloc | apply Kd.N_drewN | apply Kd.N_drew)); exact HO288.out) (Kd.R_base ho0) hb); have n6 := aM_ (Kd.R_elder' (by (with_reducible repeat (first | apply rA_ | apply rN_ | apply rD_)); exact HO291.out) (Kd.R_base ho0) hb); have n7 := aM_ (Kd.R_elder' (by (with_reducible repeat (first | apply rA_ | apply rN_ | apply rD_)); exact HO295.out) (Kd.R_base ho0) hb); have n8 := aM_ (Kd.R_elder' (by (with_reducible repeat (first | apply rA_ | apply rN_ | apply rD_)); exact HO299.out) (Kd.R_base ho0) hb); have n9 := aM_ (Kd.R_elder' (by (with_reducible repeat (first | apply rA_ | apply rN_ | apply rD_)); exact HO304.out) (Kd.R_base ho0) hb); have n10 := aM_ (Kd.R_elder' (by (with_reducible repeat (first | apply rA_ | apply rN_ | apply rD_)); exact HO308.out) (Kd.R_base ho0) hb); have n11 := aM_ (Kd.R_elder' (by (with_reducible repeat (first | apply rA_ | apply rN_ | apply rD_)); exact HO312.out) (Kd.R_base ho0) hb); have n12 := aM_ (Kd.R_lower (Kd.R_new' (Kd.R_new' (Kd.R_new' (Kd.R_new' (Kd.R_new' (Kd.R_new' (Kd.R_new' (Kd.R_new' (Kd.R_new' ho0 (Kd.R_lt (by (with_reducible repeat (first | apply rA_ | apply rN_ | apply rD_)); exact HO275.out))) (Kd.R_lt (by (with_reducible repeat (first | apply rA_ | apply rN_ | apply rD_)); exact HO278.out))) (Kd.R_lt (by (with_reducible repeat (first | apply rA_ | apply rN_ | apply rD_)); exact HO285.out))) (Kd.R_lt (by (with_reducible repeat (first | apply rA_ | apply rN_ | apply rD_)); exact HO291.out))) (Kd.R_lt (by (with_reducible repeat (first | apply rA_ | apply rN_ | apply rD_)); exact HO295.out))) (Kd.R_lt (by (with_reducible repeat (first | apply rA_ | apply rN_ | apply rD_)); exact HO299.out))) (Kd.R_lt (by (with_reducible repeat (first | apply rA_ | apply rN_ | apply rD_)); exact HO304.out))) (Kd.R_lt (by (with_reducible repeat (first | apply rA_ | apply rN_ | apply rD_)); exact HO308.out))) (Kd.R_lt (by (with_reducible repeat (first | apply rA_ | apply rN_ | apply rD_)); exact HO312.out))) (below_size (gB_ HB.out))); have n13 := aM_ (nB_ BK272.out hb); have n14 := aM_ (sT_ HB.out hb); clear HO271; clear HO275; clear HO278; clear HO282; clear HO285; clear HO288; clear HO291; clear HO295; clear HO299; clear HO304; clear HO308; clear HO312; clear BK272; clear HB; have HO271 := n0; have HO275 := n1; have HO278 := n2; have HO282 := n3; have HO285 := n4; have HO288 := n5; have HO291 := n6; have HO295 := n7; have HO299 := n8; have HO304 := n9; have HO308 := n10; have HO312 := n11; have HO316 := n12; have BK272 := n13; have HB := n14; clear n0 n1 n2 n3 n4 n5 n6 n7 n8 n9 n10 n11 n12 n13 n14; (try clear ho0)) | (go_at_call 23; (with_reducible refine (impl_Knows.calls k _ _ t293 _ _ t297 true _ ?side1 ?side2 ?side3 ?side4 A21.out).mono ?_); (case side1 => exact cS_ (Kd.R_reads' HO295.out).2.2); (case side2 => exact (Kd.R_reads' HO295.out).2.1); (case side3 => exact cS_ (Kd.R_reads' HO299.out).2.2); (case side4 => exact (Kd.R_reads' HO299.out).2.1); rintro e w' ⟨rfl, ⟨nd, rfl⟩⟩; obtain ⟨Ao58, co58, eo58⟩ := Kd.R_slice HO291.out; subst eo58) | (go_at_call 23; (with_reducible refine (impl_Knows.calls k _ _ t289 _ _ t293 t318 _ ?side1 ?side2 ?side3 ?side4 A23.out).mono ?_); (case side1 => exact cS_ (Kd.R_reads' HO291.out).2.2); (case side2 => exact (Kd.R_reads' HO291.out).2.1); (case side3 => exact cS_ (Kd.R_reads' HO295.out).2.2); (case side4 => exact (Kd.R_reads' HO295.out).2.1); rintro e w' ⟨rfl, ⟨nd, rfl⟩⟩))
         go_ret
         exact fI_ HB.out
        ·replace c22 := Bool.eq_false_iff.mpr c22
         subst c22
         have H1 : (some false) = some r := by rw [if_neg (show ¬ (false = true) by decide)] at H; exact H
         exact absurd ((Option.some.inj H1).trans hr) (by decide)
       ·rw [if_neg c20] at H
        exact absurd ((Option.some.inj H).trans hr) (by decide)
      ·rw [if_neg c19] at H
       exact absurd ((Option.some.inj H).trans hr) (by decide)
     ·rw [if_neg c18] at H
      exact absurd ((Option.some.inj H).trans hr) (by decide)
    ·rw [if_neg c17] at H
     exact absurd ((Option.some.inj H).trans hr) (by decide)
   ·rw [if_neg c16] at H
    exact absurd ((Option.some.inj H).trans hr) (by decide)
  ·rw [if_neg c5] at H
   exact absurd H (by simp)
end Go.Proofs.Ythbcnakmnbilhaa.PFnMessage
namespace Go.Proofs.Ythbcnakmnbilhaa.Lp
open Go.RowKit Go.Proofs.YthbcnakmnbilhaaW.PrintWords
set_option linter.unusedVariables false
set_option linter.unusedSimpArgs false
theorem wrapS {j n : Nat} (h : j < n) (hn : n ≤ 9223372036854775807) : wrap64 ((j : Int) + 1) = ((j + 1 : Nat) : Int) := by
  unfold wrap64; omega
theorem wrap_in {n : Int} (h0 : -9223372036854775808 ≤ n) (h1 : n ≤ 9223372036854775807) : wrap64 n = n := by
  unfold wrap64; omega
theorem rd_get {xs : List Int} {j : Nat} (h : j < xs.length) : rd xs (j : Int) = xs[j] := by simp [rd, List.getD_eq_getElem?_getD, h]
theorem count_up {ρ : Type} {L : Nat → Nat → Option ρ} {R : Nat → ρ} {n : Nat} (hend : Ev (L n) (R n)) (hstep : ∀ j, j < n → Ev (L (j + 1)) (R (j + 1)) → Ev (L j) (R j)) : ∀ j, j ≤ n → Ev (L j) (R j) := by
  have key : ∀ d j, j + d = n → Ev (L j) (R j) := by
    intro d
    induction d with
    | zero => intro j hj; obtain rfl : j = n := by omega
              exact hend
    | succ d ih => intro j hj; exact hstep j (by omega) (ih (j + 1) (by omega))
  exact fun j hj => key (n - j) j (by omega)
theorem Ev.one {α : Type} {g : Nat → Option α} {r : α} (h : ∀ k, g (k + 1) = some r) : Ev g r := ⟨1, fun k hk => by
  obtain ⟨m, rfl⟩ : ∃ m, k = m + 1 := ⟨k - 1, by omega⟩
  exact h m⟩
theorem Ev.all {α : Type} {g : Nat → Option α} {r : α} (h : ∀ k, g k = some r) : Ev g r := ⟨0, fun k _ => h k⟩
def allFrom {α : Type} (p : α → Bool) (xs : List α) (j : Nat) : Bool := (xs.drop j).all p
theorem allFrom_step {α : Type} {p : α → Bool} {xs : List α} {j : Nat} (h : j < xs.length) : allFrom p xs j = (p xs[j] && allFrom p xs (j + 1)) := by
  unfold allFrom
  rw [List.drop_eq_getElem_cons h, List.all_cons]
theorem allFrom_end {α : Type} {p : α → Bool} (xs : List α) : allFrom p xs xs.length = true := by simp [allFrom]
theorem allFrom_zero {α : Type} (p : α → Bool) (xs : List α) : allFrom p xs 0 = xs.all p := rfl
theorem Ev.val {α : Type} {g : Nat → Option α} {r r' : α} (h : r = r') (k : Ev g r) : Ev g r' := h ▸ k
theorem Ev.ite_pos {α : Type} {c : Prop} [Decidable c] {g f : Nat → Option α} {r : α} (h : c) (k : Ev g r) : Ev (fun n => if c then g n else f n) r := by simp only [if_pos h]; exact k
theorem Ev.ite_neg {α : Type} {c : Prop} [Decidable c] {g f : Nat → Option α} {r : α} (h : ¬ c) (k : Ev f r) : Ev (fun n => if c then g n else f n) r := by simp only [if_neg h]; exact k
theorem yes_loop {ρ : Type} {L : Nat → Nat → Option ρ} (n : Nat) (r : ρ) (hend : Ev (L n) r) (hstep : ∀ j, j < n → Ev (L (j + 1)) r → Ev (L j) r) : Ev (L 0) r :=
  count_up (R := fun _ => r) hend hstep 0 (Nat.zero_le _)
theorem all_loop {α : Type} {L : Nat → Nat → Option Bool} (xs : List α) (p : α → Bool) {b : Bool} (hend : Ev (L xs.length) b) (hyes : ∀ j (h : j < xs.length), p xs[j] = true → ∀ r, Ev (L (j + 1)) r → Ev (L j) r) (hno : ∀ j (h : j < xs.length), p xs[j] = false → Ev (L j) false) : Ev (L 0) (xs.all p && b) := by
  have key : ∀ d j, j + d = xs.length → Ev (L j) (allFrom p xs j && b) := by
    intro d
    induction d with
    | zero =>
      intro j hj
      obtain rfl : j = xs.length := by omega
      rw [allFrom_end, Bool.true_and]
      exact hend
    | succ d ih =>
      intro j hj
      have h : j < xs.length := by omega
      rw [allFrom_step h]
      cases e : p xs[j] with
      | true => rw [Bool.true_and]; exact hyes j h e _ (ih (j + 1) (by omega))
      | false => rw [Bool.false_and, Bool.false_and]; exact hno j h e
  have := key xs.length 0 (by omega)
  rwa [allFrom_zero] at this
theorem yes_all {α ρ : Type} {L : Nat → Nat → Option ρ} {r : ρ} (xs : List α) (p : α → Bool) (h : xs.all p = true) (hend : Ev (L xs.length) r) (hyes : ∀ j (h : j < xs.length), p xs[j] = true → Ev (L (j + 1)) r → Ev (L j) r) : Ev (L 0) r :=
  yes_loop xs.length r hend (fun j hj ih => hyes j hj (List.all_eq_true.1 h _ (List.getElem_mem hj)) ih)
theorem no_all {α ρ : Type} {L : Nat → Nat → Option ρ} {r : ρ} (xs : List α) (p : α → Bool) (h : xs.all p = false) (hyes : ∀ j (h : j < xs.length), p xs[j] = true → Ev (L (j + 1)) r → Ev (L j) r) (hno : ∀ j (h : j < xs.length), p xs[j] = false → Ev (L j) r) : Ev (L 0) r := by
  have key : ∀ d j, j + d = xs.length → allFrom p xs j = false → Ev (L j) r := by
    intro d
    induction d with
    | zero =>
      intro j hj hf
      obtain rfl : j = xs.length := by omega
      rw [allFrom_end] at hf
      cases hf
    | succ d ih =>
      intro j hj hf
      have hlt : j < xs.length := by omega
      rw [allFrom_step hlt] at hf
      cases e : p xs[j] with
      | true => rw [e, Bool.true_and] at hf; exact hyes j hlt e (ih (j + 1) (by omega) hf)
      | false => exact hno j hlt e
  exact key xs.length 0 (by omega) (by rw [allFrom_zero]; exact h)
end Go.Proofs.Ythbcnakmnbilhaa.Lp
