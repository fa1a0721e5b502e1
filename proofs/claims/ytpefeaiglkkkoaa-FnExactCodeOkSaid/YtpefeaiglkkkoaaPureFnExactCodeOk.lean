/- The program's CodeOk answers what the reference's does and leaves its arguments as they were: the printed law's function is true for all lists of steps. -/
import Derived.Test.YtpefeaiglkkkoaaPFnExactCodeOkx7
import Derived.Test.YtpefeaiglkkkoaaLp
namespace Go.Proofs.Ytpefeaiglkkkoaa.Pure
open Go.RowKit Go.Proofs.Ytpefeaiglkkkoaa.PFnExactCodeOk Go.Proofs.YtpefeaiglkkkoaaW.PrintWords Go.Proofs.YtpefeaiglkkkoaaW.PrintLast Go.Proofs.Ytpefeaiglkkkoaa.Lp
set_option linter.unusedVariables false
set_option linter.unusedSimpArgs false

def cvStep (x : S107) : S40 := ⟨x.f0, x.f1, x.f2, x.f3, x.f4⟩

theorem szStepS_ev (l : (List S107)) (a : Int) (h0 : 0 ≤ a) (hB : a ≤ 1048576) (hl : l.length ≤ 9223372036854775807) : Ev (fun k => laws_szStepS.f l a) (left? l.length a) := by
  refine Ev.all fun k => ?_
  unfold laws_szStepS.f left?
  rw [wrap_in (by omega) (by omega)]
  by_cases h : (l.length : Int) ≤ a
  · rw [if_neg (by omega), if_pos h]
  · rw [if_pos (by omega), if_neg h]

theorem toStep_ev (a_0 : Int) (a_1 : Int) (a_2 : Int) (a_3 : Int) (a_4 : Int)  : Ev (fun k => laws_toStep.f a_0 a_1 a_2 a_3 a_4) (a_0, a_1, a_2, a_3, a_4) := by
  exact Ev.all fun k => rfl

theorem toStepS_ev (xs : (List S107)) (h : xs.length ≤ 1048576) : Ev (fun k => laws_toStepS.f k xs) (xs.map cvStep) := by
  have rd_e : ∀ (j : Nat) (hj : j < xs.length), rd_T107 xs (j : Int) = xs[j] := fun j hj => by simp [rd_T107, List.getD_eq_getElem?_getD, hj]
  have key := to_loop (L := fun j ys k => laws_toStepS.l0 k xs ys (j : Int)) xs cvStep z40 (fun ys _ => Ev.one fun k => by simp only [laws_toStepS.l0]; rw [if_neg (by omega)])
    (fun j hj ys hy r ih => by
      refine Ev.step (fun k => by simp only [laws_toStepS.l0]; rw [if_pos (by omega), if_pos (by omega), rd_e j hj]) (Ev.bind (toStep_ev (xs[j].f0) (xs[j].f1) (xs[j].f2) (xs[j].f3) (xs[j].f4) ) ?_)
      refine Ev.ite_pos (by omega) ?_
      rw [wrapS hj (by omega), Int.toNat_natCast]
      exact ih)
  refine Ev.congr (fun k => ?_) key
  unfold laws_toStepS.f
  rw [if_pos (by omega), if_pos (by simp; omega)]
  simp only [Int.toNat_natCast]
  rfl

theorem eqStep_self (a_0 : Int) (a_1 : Int) (a_2 : Int) (a_3 : Int) (a_4 : Int)  : Ev (fun k => laws_eqStep.f a_0 a_1 a_2 a_3 a_4 a_0 a_1 a_2 a_3 a_4) true := by
  exact Ev.all fun k => by simp [laws_eqStep.f]

theorem eqStepS_self (xs : (List S40)) (h : xs.length ≤ 1048576) : Ev (fun k => laws_eqStepS.f k xs xs) true := by
  have rd_e : ∀ (j : Nat) (hj : j < xs.length), rd_T40 xs (j : Int) = xs[j] := fun j hj => by simp [rd_T40, List.getD_eq_getElem?_getD, hj]
  have key := yes_loop (L := fun j k => laws_eqStepS.l0 k xs xs (j : Int)) xs.length true (Ev.one fun k => by simp only [laws_eqStepS.l0]; rw [if_neg (by omega)])
    (fun j hj ih => by
      refine Ev.step (fun k => by simp only [laws_eqStepS.l0]; rw [if_pos (by omega), if_pos (by omega), if_pos (by omega), rd_e j hj]) (Ev.bind (eqStep_self (xs[j].f0) (xs[j].f1) (xs[j].f2) (xs[j].f3) (xs[j].f4) ) ?_)
      refine Ev.ite_pos rfl ?_
      rw [wrapS hj (by omega)]
      exact ih)
  refine Ev.congr (fun k => ?_) key
  unfold laws_eqStepS.f
  rw [if_pos rfl]
  rfl

/-- lo .. hi. -/
def inn (a lo hi : Int) : Bool := decide (lo ≤ a ∧ a ≤ hi)

theorem spec_l1In_eq (a lo hi : Int) : spec_l1In.f a lo hi = some (inn a lo hi) := by
  unfold spec_l1In.f inn
  by_cases h : a ≥ lo
  · rw [if_pos h]; congr 1; simp; omega
  · rw [if_neg h, decide_eq_false (by omega)]

theorem impl_within_eq (a lo hi : Int) : impl_within.f a lo hi = some (inn a lo hi) := by
  unfold impl_within.f inn
  by_cases h : a ≥ lo
  · rw [if_pos h]; congr 1; simp; omega
  · rw [if_neg h, decide_eq_false (by omega)]

/-- What a right step is, for so many places. -/
def StepR (op r a b n p : Int) : Prop :=
  (0 ≤ r ∧ r ≤ 7) ∧ (0 ≤ b ∧ b ≤ 7) ∧ ((0 ≤ a ∧ a ≤ 7) ∨ (a = -1 ∧ (op = 5 ∨ op = 6 ∨ op = 7))) ∧
  ((op = 1 ∧ (-1000000000 ≤ n ∧ n ≤ 1000000000) ∧ a = 0 ∧ b = 0) ∨ ((op = 2 ∨ op = 3 ∨ op = 4) ∧ n = 0) ∨ (op = 5 ∧ (0 ≤ n ∧ n ≤ 23) ∧ b = 0) ∨
   ((op = 6 ∨ op = 7) ∧ (0 ≤ n ∧ n ≤ 23) ∧ r = 0) ∨ (op = 8 ∧ (0 ≤ n ∧ n ≤ 23) ∧ a = 0) ∨ (op = 9 ∧ r = 0 ∧ b = 0 ∧ n = 0) ∨
   (op = 10 ∧ (0 ≤ n ∧ n < p) ∧ r = 0 ∧ a = 0 ∧ b = 0) ∨ (op = 11 ∧ (0 ≤ n ∧ n < p) ∧ r = 0 ∧ b = 0) ∨ ((op = 12 ∨ op = 13) ∧ r = 0 ∧ a = 0 ∧ b = 0 ∧ n = 0))
instance (op r a b n p : Int) : Decidable (StepR op r a b n p) := by unfold StepR; infer_instance
def stepOk (op r a b n p : Int) : Bool := decide (StepR op r a b n p)
theorem op_cases (op : Int) : op = 1 ∨ op = 2 ∨ op = 3 ∨ op = 4 ∨ op = 5 ∨ op = 6 ∨ op = 7 ∨ op = 8 ∨ op = 9 ∨ op = 10 ∨ op = 11 ∨ op = 12 ∨ op = 13 ∨ (op < 1 ∨ 13 < op) := by omega

theorem spec_l7Reg_eq (a : Int) : spec_l7Reg.f a = some (inn a 0 7) := by simp [spec_l7Reg.f, spec_l1In_eq]
theorem spec_StepOk_ev (op r a b n p : Int) : Ev (fun k => spec_StepOk.f k op r a b n p) (stepOk op r a b n p) := by
  refine ⟨5, fun k hk => ?_⟩
  obtain ⟨m, rfl⟩ : ∃ m, k = m + 5 := ⟨k - 5, by omega⟩
  simp only [spec_StepOk.f, spec_StepOk.j0, spec_StepOk.j1, spec_StepOk.j2, spec_StepOk.j3, spec_StepOk.j4, spec_l7Reg_eq, spec_l1In_eq, Option.bind_some, inn, stepOk, decide_eq_true_eq]
  rcases op_cases op with rfl | rfl | rfl | rfl | rfl | rfl | rfl | rfl | rfl | rfl | rfl | rfl | rfl | h
  case inr.inr.inr.inr.inr.inr.inr.inr.inr.inr.inr.inr.inr =>
    have h' : ¬ StepR op r a b n p := by unfold StepR; omega
    simp only [if_neg (show ¬ op = 1 by omega), if_neg (show ¬ op = 2 by omega), if_neg (show ¬ op = 3 by omega), if_neg (show ¬ op = 4 by omega), if_neg (show ¬ op = 5 by omega), if_neg (show ¬ op = 6 by omega), if_neg (show ¬ op = 7 by omega), if_neg (show ¬ op = 8 by omega), if_neg (show ¬ op = 9 by omega), if_neg (show ¬ op = 10 by omega), if_neg (show ¬ op = 11 by omega), if_neg (show ¬ op = 12 by omega), if_neg (show ¬ op = 13 by omega), decide_eq_false h']
    have h4 : (op == 4) = false := by simpa using (show ¬ op = 4 by omega)
    have h7 : (op == 7) = false := by simpa using (show ¬ op = 7 by omega)
    simp only [h4, h7, Bool.false_eq_true, if_false]
    repeat' split
    all_goals rfl
  all_goals
    simp only [StepR]
    simp
    repeat' split
    all_goals first
      | (congr 1; rw [Bool.eq_iff_iff]; simp; omega)
      | (simp; omega)

theorem impl_isCell_eq (a : Int) : impl_isCell.f a = some (inn a 0 23) := by simp [impl_isCell.f, impl_within_eq]
theorem impl_StepOk_ev (op r a b n p : Int) : Ev (fun k => impl_StepOk.f k op r a b n p) (stepOk op r a b n p) := by
  refine ⟨8, fun k hk => ?_⟩
  obtain ⟨m, rfl⟩ : ∃ m, k = m + 8 := ⟨k - 8, by omega⟩
  simp only [impl_StepOk.f, impl_StepOk.j0, impl_StepOk.j1, impl_StepOk.j2, impl_stepNamed.f, impl_stepNamed.j0, impl_stepNamed.j1, impl_isCell_eq, impl_within_eq, Option.bind_some, inn, stepOk, decide_eq_true_eq]
  rcases op_cases op with rfl | rfl | rfl | rfl | rfl | rfl | rfl | rfl | rfl | rfl | rfl | rfl | rfl | h
  case inr.inr.inr.inr.inr.inr.inr.inr.inr.inr.inr.inr.inr =>
    have h' : ¬ StepR op r a b n p := by unfold StepR; omega
    rw [if_neg (by omega), if_neg (by omega), decide_eq_false h', if_pos trivial]
  all_goals
    simp only [StepR]
    simp
    repeat' split
    all_goals first
      | (congr 1; rw [Bool.eq_iff_iff]; simp; omega)
      | (simp; omega)

/-- Right code. -/
def stepIn (p : Int) (x : S40) : Bool := stepOk x.f0 x.f1 x.f2 x.f3 x.f4 p
def lastStep (l : List S40) : Bool := decide ((l.getD (l.length - 1) z40).f0 = 10 ∨ (l.getD (l.length - 1) z40).f0 = 12 ∨ (l.getD (l.length - 1) z40).f0 = 13)
def codeOk (l : List S40) : Bool := inn (l.length : Int) 1 800 && (l.all (stepIn (l.length : Int)) && lastStep l)
theorem rd_step (l : List S40) (j : Nat) (h : j < l.length) : rd_T40 l (j : Int) = l[j] := by simp [rd_T40, List.getD_eq_getElem?_getD, h]
theorem last_step (l : List S40) : (if (l.getD (l.length - 1) z40).f0 = 10 then some true else if (l.getD (l.length - 1) z40).f0 = 12 then some true else some ((l.getD (l.length - 1) z40).f0 == 13)) = some (lastStep l) := by
  unfold lastStep
  generalize (l.getD (l.length - 1) z40).f0 = q
  by_cases h : q = 10
  · rw [if_pos h, decide_eq_true (.inl h)]
  · by_cases h' : q = 12
    · rw [if_neg h, if_pos h', decide_eq_true (.inr (.inl h'))]
    · rw [if_neg h, if_neg h']
      congr 1
      rw [Bool.eq_iff_iff]
      simp [h, h']
theorem rd_last_step (l : List S40) (h : 1 ≤ l.length) : rd_T40 l ((l.length : Int) - 1) = l.getD (l.length - 1) z40 := by
  rw [rd_T40, show ((l.length : Int) - 1).toNat = l.length - 1 by omega]

theorem spec_CodeOk_ev (l : List S40) (hl : l.length ≤ 1048576) : Ev (fun k => spec_CodeOk.f k l) (codeOk l) := by
  simp only [spec_CodeOk.f, spec_l1In_eq, Option.bind_some]
  by_cases h1 : inn (l.length : Int) 1 800 = true
  · have h1' : 1 ≤ (l.length : Int) := by simp only [inn, decide_eq_true_eq] at h1; exact h1.1
    refine Ev.ite_pos h1 ?_
    refine Ev.val (r := l.all (stepIn (l.length : Int)) && lastStep l) (by unfold codeOk; rw [h1, Bool.true_and]) ?_
    refine all_loop (L := fun j k => spec_CodeOk.l0 k l (l.length : Int) (j : Int)) l (stepIn (l.length : Int)) ?_ (fun j hj hp r ih => ?_) (fun j hj hp => ?_)
    · refine Ev.one fun k => ?_
      simp only [spec_CodeOk.l0]
      rw [if_neg (by omega), wrap_in (by omega) (by omega), if_pos (by omega), if_pos (by omega), rd_last_step l (by omega), last_step]
    · refine Ev.step (fun k => by simp only [spec_CodeOk.l0]; rw [if_pos (by omega), if_pos (by omega), if_pos (by omega), rd_step l j hj]) (Ev.bind (spec_StepOk_ev ..) ?_)
      refine Ev.ite_pos hp ?_
      rw [wrapS hj (by omega)]
      exact ih
    · refine Ev.step (fun k => by simp only [spec_CodeOk.l0]; rw [if_pos (by omega), if_pos (by omega), if_pos (by omega), rd_step l j hj]) (Ev.bind (spec_StepOk_ev ..) ?_)
      exact Ev.ite_neg (fun e => by have e' : stepIn (l.length : Int) l[j] = true := e; rw [hp] at e'; cases e') (Ev.now _)
  · refine Ev.ite_neg h1 ?_
    rw [codeOk, show inn (l.length : Int) 1 800 = false by simpa using h1, Bool.false_and]
    exact Ev.now _

theorem impl_CodeOk_ev (l : List S40) (hl : l.length ≤ 1048576) : Ev (fun k => impl_CodeOk.f k l) (codeOk l) := by
  simp only [impl_CodeOk.f, impl_within_eq, Option.bind_some]
  by_cases h1 : inn (l.length : Int) 1 800 = true
  · have h1' : 1 ≤ (l.length : Int) := by simp only [inn, decide_eq_true_eq] at h1; exact h1.1
    refine Ev.ite_pos h1 ?_
    refine Ev.val (r := l.all (stepIn (l.length : Int)) && lastStep l) (by unfold codeOk; rw [h1, Bool.true_and]) ?_
    refine all_loop (L := fun j k => impl_CodeOk.l0 k l l (l.length : Int) (j : Int)) l (stepIn (l.length : Int)) ?_ (fun j hj hp r ih => ?_) (fun j hj hp => ?_)
    · refine Ev.one fun k => ?_
      simp only [impl_CodeOk.l0]
      rw [if_neg (by omega), wrap_in (by omega) (by omega), if_pos (by omega), if_pos (by omega), rd_last_step l (by omega), last_step]
    · refine Ev.step (fun k => by simp only [impl_CodeOk.l0]; rw [if_pos (by omega), if_pos (by omega), if_pos (by omega), rd_step l j hj]) (Ev.bind (impl_StepOk_ev ..) ?_)
      refine Ev.ite_pos hp ?_
      rw [wrapS hj (by omega)]
      exact ih
    · refine Ev.step (fun k => by simp only [impl_CodeOk.l0]; rw [if_pos (by omega), if_pos (by omega), if_pos (by omega), rd_step l j hj]) (Ev.bind (impl_StepOk_ev ..) ?_)
      exact Ev.ite_neg (fun e => by have e' : stepIn (l.length : Int) l[j] = true := e; rw [hp] at e'; cases e') (Ev.now _)
  · refine Ev.ite_neg h1 ?_
    rw [codeOk, show inn (l.length : Int) 1 800 = false by simpa using h1, Bool.false_and]
    exact Ev.now _

theorem FnExactCodeOk (x0 : (List S107)) (ok0 : (x0.length ≤ maxLen ∧ ∀ x ∈ x0, (((Lit.int .i64 x.f0).wf = true) ∧ (((Lit.int .i64 x.f1).wf = true) ∧ (((Lit.int .i64 x.f2).wf = true) ∧ (((Lit.int .i64 x.f3).wf = true) ∧ ((Lit.int .i64 x.f4).wf = true))))))) : ∃ k, laws_FnExactCodeOk.f k x0 = some true := by
  have hl : x0.length ≤ 9223372036854775807 := by have := ok0.1; unfold maxLen at this; omega
  refine Ev.rounds (g := fun k => laws_FnExactCodeOk.f k x0) ?_
  simp only [laws_FnExactCodeOk.f]
  refine Ev.bind (szStepS_ev x0 1048576 (by omega) (by omega) hl) ?_
  by_cases h : (x0.length : Int) ≤ 1048576
  case neg => rw [left?_no h]; exact Ev.ite_pos (by omega) (Ev.now _)
  rw [left?_yes h]
  refine Ev.ite_neg (by omega) ?_
  have hm : (x0.map cvStep).length ≤ 1048576 := by simp; omega
  refine Ev.bind (toStepS_ev x0 (by omega)) ?_
  refine Ev.bind (spec_CodeOk_ev _ hm) ?_
  refine Ev.bind (toStepS_ev x0 (by omega)) ?_
  refine Ev.bind (impl_CodeOk_ev _ hm) ?_
  simp only [bne_self_eq_false, Bool.false_eq_true, if_false]
  refine Ev.bind (toStepS_ev x0 (by omega)) ?_
  refine Ev.bind (eqStepS_self _ hm) ?_
  simp only [if_true]
  exact Ev.now _

end Go.Proofs.Ytpefeaiglkkkoaa.Pure
