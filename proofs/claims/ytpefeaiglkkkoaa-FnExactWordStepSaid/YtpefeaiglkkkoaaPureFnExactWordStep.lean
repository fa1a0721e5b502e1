/- The program's WordStep answers what the reference's does: the printed law's function is true for all whole numbers. -/
import Derived.Test.YtpefeaiglkkkoaaPFnExactWordStepx7
import Derived.Test.YtpefeaiglkkkoaaLp
namespace Go.Proofs.Ytpefeaiglkkkoaa.Pure
open Go.RowKit Go.Proofs.Ytpefeaiglkkkoaa.PFnExactWordStep Go.Proofs.YtpefeaiglkkkoaaW.PrintWords Go.Proofs.YtpefeaiglkkkoaaW.PrintLast Go.Proofs.Ytpefeaiglkkkoaa.Lp
set_option linter.unusedVariables false
set_option linter.unusedSimpArgs false

/-- lo .. hi. -/
def inn (a lo hi : Int) : Bool := decide (lo ≤ a ∧ a ≤ hi)

theorem spec_l1In_eq (a lo hi : Int) : spec_l1In.f a lo hi = some (inn a lo hi) := by
  unfold spec_l1In.f inn
  by_cases h : a ≥ lo
  · rw [if_pos h]; congr 1; simp; omega
  · rw [if_neg h, decide_eq_false (by omega)]

theorem impl_within_eq (a lo hi : Int) : impl_within.f a lo hi = some (inn a lo hi) := by
  unfold impl_within.f inn
  by_cases h : a ≥ lo
  · rw [if_pos h]; congr 1; simp; omega
  · rw [if_neg h, decide_eq_false (by omega)]

/-- What a right step is, for so many places. -/
def StepR (op r a b n p : Int) : Prop :=
  (0 ≤ r ∧ r ≤ 7) ∧ (0 ≤ b ∧ b ≤ 7) ∧ ((0 ≤ a ∧ a ≤ 7) ∨ (a = -1 ∧ (op = 5 ∨ op = 6 ∨ op = 7))) ∧
  ((op = 1 ∧ (-1000000000 ≤ n ∧ n ≤ 1000000000) ∧ a = 0 ∧ b = 0) ∨ ((op = 2 ∨ op = 3 ∨ op = 4) ∧ n = 0) ∨ (op = 5 ∧ (0 ≤ n ∧ n ≤ 23) ∧ b = 0) ∨
   ((op = 6 ∨ op = 7) ∧ (0 ≤ n ∧ n ≤ 23) ∧ r = 0) ∨ (op = 8 ∧ (0 ≤ n ∧ n ≤ 23) ∧ a = 0) ∨ (op = 9 ∧ r = 0 ∧ b = 0 ∧ n = 0) ∨
   (op = 10 ∧ (0 ≤ n ∧ n < p) ∧ r = 0 ∧ a = 0 ∧ b = 0) ∨ (op = 11 ∧ (0 ≤ n ∧ n < p) ∧ r = 0 ∧ b = 0) ∨ ((op = 12 ∨ op = 13) ∧ r = 0 ∧ a = 0 ∧ b = 0 ∧ n = 0))
instance (op r a b n p : Int) : Decidable (StepR op r a b n p) := by unfold StepR; infer_instance
def stepOk (op r a b n p : Int) : Bool := decide (StepR op r a b n p)
theorem op_cases (op : Int) : op = 1 ∨ op = 2 ∨ op = 3 ∨ op = 4 ∨ op = 5 ∨ op = 6 ∨ op = 7 ∨ op = 8 ∨ op = 9 ∨ op = 10 ∨ op = 11 ∨ op = 12 ∨ op = 13 ∨ (op < 1 ∨ 13 < op) := by omega

theorem spec_l7Reg_eq (a : Int) : spec_l7Reg.f a = some (inn a 0 7) := by simp [spec_l7Reg.f, spec_l1In_eq]
theorem spec_StepOk_ev (op r a b n p : Int) : Ev (fun k => spec_StepOk.f k op r a b n p) (stepOk op r a b n p) := by
  refine ⟨5, fun k hk => ?_⟩
  obtain ⟨m, rfl⟩ : ∃ m, k = m + 5 := ⟨k - 5, by omega⟩
  simp only [spec_StepOk.f, spec_StepOk.j0, spec_StepOk.j1, spec_StepOk.j2, spec_StepOk.j3, spec_StepOk.j4, spec_l7Reg_eq, spec_l1In_eq, Option.bind_some, inn, stepOk, decide_eq_true_eq]
  rcases op_cases op with rfl | rfl | rfl | rfl | rfl | rfl | rfl | rfl | rfl | rfl | rfl | rfl | rfl | h
  case inr.inr.inr.inr.inr.inr.inr.inr.inr.inr.inr.inr.inr =>
    have h' : ¬ StepR op r a b n p := by unfold StepR; omega
    simp only [if_neg (show ¬ op = 1 by omega), if_neg (show ¬ op = 2 by omega), if_neg (show ¬ op = 3 by omega), if_neg (show ¬ op = 4 by omega), if_neg (show ¬ op = 5 by omega), if_neg (show ¬ op = 6 by omega), if_neg (show ¬ op = 7 by omega), if_neg (show ¬ op = 8 by omega), if_neg (show ¬ op = 9 by omega), if_neg (show ¬ op = 10 by omega), if_neg (show ¬ op = 11 by omega), if_neg (show ¬ op = 12 by omega), if_neg (show ¬ op = 13 by omega), decide_eq_false h']
    have h4 : (op == 4) = false := by simpa using (show ¬ op = 4 by omega)
    have h7 : (op == 7) = false := by simpa using (show ¬ op = 7 by omega)
    simp only [h4, h7, Bool.false_eq_true, if_false]
    repeat' split
    all_goals rfl
  all_goals
    simp only [StepR]
    simp
    repeat' split
    all_goals first
      | (congr 1; rw [Bool.eq_iff_iff]; simp; omega)
      | (simp; omega)

theorem impl_isCell_eq (a : Int) : impl_isCell.f a = some (inn a 0 23) := by simp [impl_isCell.f, impl_within_eq]
theorem impl_StepOk_ev (op r a b n p : Int) : Ev (fun k => impl_StepOk.f k op r a b n p) (stepOk op r a b n p) := by
  refine ⟨8, fun k hk => ?_⟩
  obtain ⟨m, rfl⟩ : ∃ m, k = m + 8 := ⟨k - 8, by omega⟩
  simp only [impl_StepOk.f, impl_StepOk.j0, impl_StepOk.j1, impl_StepOk.j2, impl_stepNamed.f, impl_stepNamed.j0, impl_stepNamed.j1, impl_isCell_eq, impl_within_eq, Option.bind_some, inn, stepOk, decide_eq_true_eq]
  rcases op_cases op with rfl | rfl | rfl | rfl | rfl | rfl | rfl | rfl | rfl | rfl | rfl | rfl | rfl | h
  case inr.inr.inr.inr.inr.inr.inr.inr.inr.inr.inr.inr.inr =>
    have h' : ¬ StepR op r a b n p := by unfold StepR; omega
    rw [if_neg (by omega), if_neg (by omega), decide_eq_false h', if_pos trivial]
  all_goals
    simp only [StepR]
    simp
    repeat' split
    all_goals first
      | (congr 1; rw [Bool.eq_iff_iff]; simp; omega)
      | (simp; omega)

/-- The word of a step; none of what is no right step. -/
def wordOf (op r a b n : Int) : Int × Bool := if stepOk op r a b n 800 = true then (op + 16 * r + 256 * (a + 1) + 4096 * b + 65536 * (n + 1000000000), true) else (0, false)
theorem word_wraps {op r a b n : Int} (h : stepOk op r a b n 800 = true) : wrap64 (wrap64 (wrap64 (wrap64 (op + wrap64 (16 * r)) + wrap64 (256 * wrap64 (a + 1))) + wrap64 (4096 * b)) + wrap64 (65536 * wrap64 (n + 1000000000))) = op + 16 * r + 256 * (a + 1) + 4096 * b + 65536 * (n + 1000000000) := by
  have h1 : StepR op r a b n 800 := by simpa [stepOk] using h
  have hop : 1 ≤ op ∧ op ≤ 13 := by unfold StepR at h1; omega
  have hr : 0 ≤ r ∧ r ≤ 7 := h1.1
  have hb : 0 ≤ b ∧ b ≤ 7 := h1.2.1
  have ha : -1 ≤ a ∧ a ≤ 7 := by have := h1.2.2.1; omega
  have hn : -1000000000 ≤ n ∧ n ≤ 1000000000 := by unfold StepR at h1; omega
  rw [wrap_in (n := 16 * r) (by omega) (by omega), wrap_in (n := a + 1) (by omega) (by omega), wrap_in (n := 256 * (a + 1)) (by omega) (by omega), wrap_in (n := 4096 * b) (by omega) (by omega), wrap_in (n := n + 1000000000) (by omega) (by omega), wrap_in (n := 65536 * (n + 1000000000)) (by omega) (by omega),
    wrap_in (n := op + 16 * r) (by omega) (by omega), wrap_in (n := op + 16 * r + 256 * (a + 1)) (by omega) (by omega), wrap_in (n := op + 16 * r + 256 * (a + 1) + 4096 * b) (by omega) (by omega), wrap_in (by omega) (by omega)]

theorem spec_StepWord_ev (op r a b n : Int) : Ev (fun k => spec_StepWord.f k op r a b n) (wordOf op r a b n) := by
  simp only [spec_StepWord.f]
  refine Ev.bind (spec_StepOk_ev ..) ?_
  by_cases h : stepOk op r a b n 800 = true
  · simp only [h, if_true, word_wraps h, wordOf]
    exact Ev.now _
  · simp only [h, if_false, wordOf]
    exact Ev.now _

theorem impl_StepWord_ev (op r a b n : Int) : Ev (fun k => impl_StepWord.f k op r a b n) (wordOf op r a b n) := by
  simp only [impl_StepWord.f]
  refine Ev.bind (impl_StepOk_ev ..) ?_
  by_cases h : stepOk op r a b n 800 = true
  · simp only [h, if_true, word_wraps h, wordOf]
    exact Ev.now _
  · simp only [h, if_false, wordOf]
    exact Ev.now _

def wA (w : Int) : Int := Int.tmod w 16
def wB (w : Int) : Int := Int.tmod (wrap64 (Int.tdiv w 16)) 16
def wC (w : Int) : Int := wrap64 (Int.tmod (wrap64 (Int.tdiv w 256)) 16 - 1)
def wD (w : Int) : Int := Int.tmod (wrap64 (Int.tdiv w 4096)) 16
def wE (w : Int) : Int := wrap64 (wrap64 (Int.tdiv w 65536) - 1000000000)
/-- The step of a word; none: noughts and false. -/
def wordStep (w : Int) : Int × Int × Int × Int × Int × Bool :=
  if w < 0 then (0, 0, 0, 0, 0, false) else if (wordOf (wA w) (wB w) (wC w) (wD w) (wE w)).2 = true then (if (wordOf (wA w) (wB w) (wC w) (wD w) (wE w)).1 = w then (wA w, wB w, wC w, wD w, wE w, true) else (0, 0, 0, 0, 0, false)) else (0, 0, 0, 0, 0, false)

theorem spec_WordStep_ev (w : Int) : Ev (fun k => spec_WordStep.f k w) (wordStep w) := by
  simp only [spec_WordStep.f, wordStep]
  by_cases h : w < 0
  · simp only [if_pos h]
    exact Ev.now _
  · simp only [if_neg h]
    refine Ev.bind (spec_StepWord_ev (wA w) (wB w) (wC w) (wD w) (wE w)) ?_
    by_cases h1 : (wordOf (wA w) (wB w) (wC w) (wD w) (wE w)).2 = true
    · by_cases h2 : (wordOf (wA w) (wB w) (wC w) (wD w) (wE w)).1 = w
      · simp only [if_pos h1, if_pos h2]
        exact Ev.now _
      · simp only [if_pos h1, if_neg h2]
        exact Ev.now _
    · simp only [if_neg h1]
      exact Ev.now _

theorem impl_WordStep_ev (w : Int) : Ev (fun k => impl_WordStep.f k w) (wordStep w) := by
  simp only [impl_WordStep.f, wordStep]
  by_cases h : w < 0
  · simp only [if_pos h]
    exact Ev.now _
  · simp only [if_neg h]
    refine Ev.bind (impl_StepWord_ev (wA w) (wB w) (wC w) (wD w) (wE w)) ?_
    by_cases h1 : (wordOf (wA w) (wB w) (wC w) (wD w) (wE w)).2 = true
    · by_cases h2 : (wordOf (wA w) (wB w) (wC w) (wD w) (wE w)).1 = w
      · simp only [if_pos h1, if_pos h2]
        exact Ev.now _
      · simp only [if_pos h1, if_neg h2]
        exact Ev.now _
    · simp only [if_neg h1]
      exact Ev.now _

theorem eqStep_self (a_0 : Int) (a_1 : Int) (a_2 : Int) (a_3 : Int) (a_4 : Int)  : Ev (fun k => laws_eqStep.f a_0 a_1 a_2 a_3 a_4 a_0 a_1 a_2 a_3 a_4) true := by
  exact Ev.all fun k => by simp [laws_eqStep.f]

theorem FnExactWordStep (x0 : Int) (ok0 : ((Lit.int .i64 x0).wf = true)) : ∃ k, laws_FnExactWordStep.f k x0 = some true := by
  refine Ev.rounds (g := fun k => laws_FnExactWordStep.f k x0) ?_
  simp only [laws_FnExactWordStep.f]
  refine Ev.bind (spec_WordStep_ev x0) ?_
  refine Ev.bind (impl_WordStep_ev x0) ?_
  refine Ev.bind (eqStep_self _ _ _ _ _) ?_
  simp only [if_true, bne_self_eq_false, Bool.false_eq_true, if_false]
  exact Ev.now _

end Go.Proofs.Ytpefeaiglkkkoaa.Pure
