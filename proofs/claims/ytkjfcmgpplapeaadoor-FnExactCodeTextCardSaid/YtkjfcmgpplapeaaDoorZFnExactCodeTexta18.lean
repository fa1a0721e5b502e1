/- A part of the proof that the law FnExactCodeText holds for every input: the words, functions and walks that its row needs, without a condition of their own. -/
import Derived.ProofKit
import Derived.DataElems
import Derived.ChangeArms
import Derived.SizedLaws
import Derived.Test.YtkjfcmgpplapeaaDoorRows
import Derived.LaidMore
import Derived.OpenShut
import Derived.Stop.Joined
import Derived.Test.YtkjfcmgpplapeaaDoorZFnExactCodeTexta1
import Derived.Test.YtkjfcmgpplapeaaDoorZFnExactCodeTexta2
import Derived.Test.YtkjfcmgpplapeaaDoorZFnExactCodeTexta17
import Derived.Test.YtkjfcmgpplapeaaDoorZFnExactCodeTexts
namespace Go.Proofs.YtkjfcmgpplapeaaDoor.Pure
open Go.RowKit Go.Proofs.YtkjfcmgpplapeaaDoor.PFnExactCodeText Go.Proofs.YtkjfcmgpplapeaaDoorW.PrintWords Go.Proofs.YtkjfcmgpplapeaaDoorW.PrintLast Go.Proofs.YtkjfcmgpplapeaaDoor.Lp
set_option linter.unusedVariables false
set_option linter.unusedSimpArgs false
def cvStep (x : S44) : S46 := ⟨x.f0, x.f1, x.f2, x.f3, x.f4⟩
theorem szStepS_ev (l : (List S44)) (a : Int) (h0 : 0 ≤ a) (hB : a ≤ 1048576) (hl : l.length ≤ 9223372036854775807) : Ev (fun k => laws_szStepS.f l a) (left? l.length a) := by
  refine Ev.all fun k => ?_
  unfold laws_szStepS.f left?
  rw [wrap_in (by omega) (by omega)]
  by_cases h : (l.length : Int) ≤ a
  · rw [if_neg (by omega), if_pos h]
  · rw [if_pos (by omega), if_neg h]
theorem toStep_ev (a_0 : Int) (a_1 : Int) (a_2 : Int) (a_3 : Int) (a_4 : Int)  : Ev (fun k => laws_toStep.f a_0 a_1 a_2 a_3 a_4) (a_0, a_1, a_2, a_3, a_4) := by
  exact Ev.all fun k => rfl
theorem toStepS_ev (xs : (List S44)) (h : xs.length ≤ 1048576) : Ev (fun k => laws_toStepS.f k xs) (xs.map cvStep) := by
  have rd_e : ∀ (j : Nat) (hj : j < xs.length), rd_T44 xs (j : Int) = xs[j] := fun j hj => by simp [rd_T44, List.getD_eq_getElem?_getD, hj]
  have key := to_loop (L := fun j ys k => laws_toStepS.l0 k xs ys (j : Int)) xs cvStep z46 (fun ys _ => Ev.one fun k => by simp only [laws_toStepS.l0]; rw [if_neg (by omega)])
    (fun j hj ys hy r ih => by
      refine Ev.step (fun k => by simp only [laws_toStepS.l0]; rw [if_pos (by omega), if_pos (by omega), rd_e j hj]) (Ev.bind (toStep_ev (xs[j].f0) (xs[j].f1) (xs[j].f2) (xs[j].f3) (xs[j].f4) ) ?_)
      refine Ev.ite_pos (by omega) ?_
      rw [wrapS hj (by omega), Int.toNat_natCast]
      exact ih)
  refine Ev.congr (fun k => ?_) key
  unfold laws_toStepS.f
  rw [if_pos (by omega), if_pos (by simp; omega)]
  simp only [Int.toNat_natCast]
  rfl
theorem eqStep_self (a_0 : Int) (a_1 : Int) (a_2 : Int) (a_3 : Int) (a_4 : Int)  : Ev (fun k => laws_eqStep.f a_0 a_1 a_2 a_3 a_4 a_0 a_1 a_2 a_3 a_4) true := by
  exact Ev.all fun k => by simp [laws_eqStep.f]
theorem eqStepS_self (xs : (List S46)) (h : xs.length ≤ 1048576) : Ev (fun k => laws_eqStepS.f k xs xs) true := by
  have rd_e : ∀ (j : Nat) (hj : j < xs.length), rd_T46 xs (j : Int) = xs[j] := fun j hj => by simp [rd_T46, List.getD_eq_getElem?_getD, hj]
  have key := yes_loop (L := fun j k => laws_eqStepS.l0 k xs xs (j : Int)) xs.length true (Ev.one fun k => by simp only [laws_eqStepS.l0]; rw [if_neg (by omega)])
    (fun j hj ih => by
      refine Ev.step (fun k => by simp only [laws_eqStepS.l0]; rw [if_pos (by omega), if_pos (by omega), if_pos (by omega), rd_e j hj]) (Ev.bind (eqStep_self (xs[j].f0) (xs[j].f1) (xs[j].f2) (xs[j].f3) (xs[j].f4) ) ?_)
      refine Ev.ite_pos rfl ?_
      rw [wrapS hj (by omega)]
      exact ih)
  refine Ev.congr (fun k => ?_) key
  unfold laws_eqStepS.f
  rw [if_pos rfl]
  rfl
def inn (a lo hi : Int) : Bool := decide (lo ≤ a ∧ a ≤ hi)
theorem spec_l1In_eq (a lo hi : Int) : spec_l1In.f a lo hi = some (inn a lo hi) := by
  unfold spec_l1In.f inn
  by_cases h : a ≥ lo
  · rw [if_pos h]; congr 1; simp; omega
  · rw [if_neg h, decide_eq_false (by omega)]
theorem impl_within_eq (a lo hi : Int) : impl_within.f a lo hi = some (inn a lo hi) := by
  unfold impl_within.f inn
  by_cases h : a ≥ lo
  · rw [if_pos h]; congr 1; simp; omega
  · rw [if_neg h, decide_eq_false (by omega)]
def StepR (op r a b n p : Int) : Prop :=
  (0 ≤ r ∧ r ≤ 7) ∧ (0 ≤ b ∧ b ≤ 7) ∧ ((0 ≤ a ∧ a ≤ 7) ∨ (a = -1 ∧ (op = 5 ∨ op = 6 ∨ op = 7))) ∧
  ((op = 1 ∧ (-1000000000 ≤ n ∧ n ≤ 1000000000) ∧ a = 0 ∧ b = 0) ∨ ((op = 2 ∨ op = 3 ∨ op = 4) ∧ n = 0) ∨ (op = 5 ∧ (0 ≤ n ∧ n ≤ 23) ∧ b = 0) ∨
   ((op = 6 ∨ op = 7) ∧ (0 ≤ n ∧ n ≤ 23) ∧ r = 0) ∨ (op = 8 ∧ (0 ≤ n ∧ n ≤ 23) ∧ a = 0) ∨ (op = 9 ∧ r = 0 ∧ b = 0 ∧ n = 0) ∨
   (op = 10 ∧ (0 ≤ n ∧ n < p) ∧ r = 0 ∧ a = 0 ∧ b = 0) ∨ (op = 11 ∧ (0 ≤ n ∧ n < p) ∧ r = 0 ∧ b = 0) ∨ ((op = 12 ∨ op = 13) ∧ r = 0 ∧ a = 0 ∧ b = 0 ∧ n = 0))
instance (op r a b n p : Int) : Decidable (StepR op r a b n p) := by unfold StepR; infer_instance
def stepOk (op r a b n p : Int) : Bool := decide (StepR op r a b n p)
theorem op_cases (op : Int) : op = 1 ∨ op = 2 ∨ op = 3 ∨ op = 4 ∨ op = 5 ∨ op = 6 ∨ op = 7 ∨ op = 8 ∨ op = 9 ∨ op = 10 ∨ op = 11 ∨ op = 12 ∨ op = 13 ∨ (op < 1 ∨ 13 < op) := by omega
theorem spec_l7Reg_eq (a : Int) : spec_l7Reg.f a = some (inn a 0 7) := by simp [spec_l7Reg.f, spec_l1In_eq]
theorem spec_StepOk_ev (op r a b n p : Int) : Ev (fun k => spec_StepOk.f k op r a b n p) (stepOk op r a b n p) := by
  refine ⟨5, fun k hk => ?_⟩
  obtain ⟨m, rfl⟩ : ∃ m, k = m + 5 := ⟨k - 5, by omega⟩
  simp only [spec_StepOk.f, spec_StepOk.j0, spec_StepOk.j1, spec_StepOk.j2, spec_StepOk.j3, spec_StepOk.j4, spec_l7Reg_eq, spec_l1In_eq, Option.bind_some, inn, stepOk, decide_eq_true_eq]
  rcases op_cases op with rfl | rfl | rfl | rfl | rfl | rfl | rfl | rfl | rfl | rfl | rfl | rfl | rfl | h
  case inr.inr.inr.inr.inr.inr.inr.inr.inr.inr.inr.inr.inr =>
    have h' : ¬ StepR op r a b n p := by unfold StepR; omega
    simp only [if_neg (show ¬ op = 1 by omega), if_neg (show ¬ op = 2 by omega), if_neg (show ¬ op = 3 by omega), if_neg (show ¬ op = 4 by omega), if_neg (show ¬ op = 5 by omega), if_neg (show ¬ op = 6 by omega), if_neg (show ¬ op = 7 by omega), if_neg (show ¬ op = 8 by omega), if_neg (show ¬ op = 9 by omega), if_neg (show ¬ op = 10 by omega), if_neg (show ¬ op = 11 by omega), if_neg (show ¬ op = 12 by omega), if_neg (show ¬ op = 13 by omega), decide_eq_false h']
    have h4 : (op == 4) = false := by simpa using (show ¬ op = 4 by omega)
    have h7 : (op == 7) = false := by simpa using (show ¬ op = 7 by omega)
    simp only [h4, h7, Bool.false_eq_true, if_false]
    repeat' split
    all_goals rfl
  all_goals
    simp only [StepR]
    simp
    repeat' split
    all_goals first
      | (congr 1; rw [Bool.eq_iff_iff]; simp; omega)
      | (simp; omega)
theorem impl_isCell_eq (a : Int) : impl_isCell.f a = some (inn a 0 23) := by simp [impl_isCell.f, impl_within_eq]
theorem impl_StepOk_ev (op r a b n p : Int) : Ev (fun k => impl_StepOk.f k op r a b n p) (stepOk op r a b n p) := by
  refine ⟨8, fun k hk => ?_⟩
  obtain ⟨m, rfl⟩ : ∃ m, k = m + 8 := ⟨k - 8, by omega⟩
  simp only [impl_StepOk.f, impl_StepOk.j0, impl_StepOk.j1, impl_StepOk.j2, impl_stepNamed.f, impl_stepNamed.j0, impl_stepNamed.j1, impl_isCell_eq, impl_within_eq, Option.bind_some, inn, stepOk, decide_eq_true_eq]
  rcases op_cases op with rfl | rfl | rfl | rfl | rfl | rfl | rfl | rfl | rfl | rfl | rfl | rfl | rfl | h
  case inr.inr.inr.inr.inr.inr.inr.inr.inr.inr.inr.inr.inr =>
    have h' : ¬ StepR op r a b n p := by unfold StepR; omega
    rw [if_neg (by omega), if_neg (by omega), decide_eq_false h', if_pos trivial]
  all_goals
    simp only [StepR]
    simp
    repeat' split
    all_goals first
      | (congr 1; rw [Bool.eq_iff_iff]; simp; omega)
      | (simp; omega)
def stepIn (p : Int) (x : S46) : Bool := stepOk x.f0 x.f1 x.f2 x.f3 x.f4 p
def lastStep (l : List S46) : Bool := decide ((l.getD (l.length - 1) z46).f0 = 10 ∨ (l.getD (l.length - 1) z46).f0 = 12 ∨ (l.getD (l.length - 1) z46).f0 = 13)
def codeOk (l : List S46) : Bool := inn (l.length : Int) 1 800 && (l.all (stepIn (l.length : Int)) && lastStep l)
theorem rd_step (l : List S46) (j : Nat) (h : j < l.length) : rd_T46 l (j : Int) = l[j] := by simp [rd_T46, List.getD_eq_getElem?_getD, h]
theorem last_step (l : List S46) : (if (l.getD (l.length - 1) z46).f0 = 10 then some true else if (l.getD (l.length - 1) z46).f0 = 12 then some true else some ((l.getD (l.length - 1) z46).f0 == 13)) = some (lastStep l) := by
  unfold lastStep
  generalize (l.getD (l.length - 1) z46).f0 = q
  by_cases h : q = 10
  · rw [if_pos h, decide_eq_true (.inl h)]
  · by_cases h' : q = 12
    · rw [if_neg h, if_pos h', decide_eq_true (.inr (.inl h'))]
    · rw [if_neg h, if_neg h']
      congr 1
      rw [Bool.eq_iff_iff]
      simp [h, h']
theorem rd_last_step (l : List S46) (h : 1 ≤ l.length) : rd_T46 l ((l.length : Int) - 1) = l.getD (l.length - 1) z46 := by
  rw [rd_T46, show ((l.length : Int) - 1).toNat = l.length - 1 by omega]
theorem spec_CodeOk_ev (l : List S46) (hl : l.length ≤ 1048576) : Ev (fun k => spec_CodeOk.f k l) (codeOk l) := by
  simp only [spec_CodeOk.f, spec_l1In_eq, Option.bind_some]
  by_cases h1 : inn (l.length : Int) 1 800 = true
  · have h1' : 1 ≤ (l.length : Int) := by simp only [inn, decide_eq_true_eq] at h1; exact h1.1
    refine Ev.ite_pos h1 ?_
    refine Ev.val (r := l.all (stepIn (l.length : Int)) && lastStep l) (by unfold codeOk; rw [h1, Bool.true_and]) ?_
    refine all_loop (L := fun j k => spec_CodeOk.l0 k l (l.length : Int) (j : Int)) l (stepIn (l.length : Int)) ?_ (fun j hj hp r ih => ?_) (fun j hj hp => ?_)
    · refine Ev.one fun k => ?_
      simp only [spec_CodeOk.l0]
      rw [if_neg (by omega), wrap_in (by omega) (by omega), if_pos (by omega), if_pos (by omega), rd_last_step l (by omega), last_step]
    · refine Ev.step (fun k => by simp only [spec_CodeOk.l0]; rw [if_pos (by omega), if_pos (by omega), if_pos (by omega), rd_step l j hj]) (Ev.bind (spec_StepOk_ev ..) ?_)
      refine Ev.ite_pos hp ?_
      rw [wrapS hj (by omega)]
      exact ih
    · refine Ev.step (fun k => by simp only [spec_CodeOk.l0]; rw [if_pos (by omega), if_pos (by omega), if_pos (by omega), rd_step l j hj]) (Ev.bind (spec_StepOk_ev ..) ?_)
      exact Ev.ite_neg (fun e => by have e' : stepIn (l.length : Int) l[j] = true := e; rw [hp] at e'; cases e') (Ev.now _)
  · refine Ev.ite_neg h1 ?_
    rw [codeOk, show inn (l.length : Int) 1 800 = false by simpa using h1, Bool.false_and]
    exact Ev.now _
theorem impl_CodeOk_ev (l : List S46) (hl : l.length ≤ 1048576) : Ev (fun k => impl_CodeOk.f k l) (codeOk l) := by
  simp only [impl_CodeOk.f, impl_within_eq, Option.bind_some]
  by_cases h1 : inn (l.length : Int) 1 800 = true
  · have h1' : 1 ≤ (l.length : Int) := by simp only [inn, decide_eq_true_eq] at h1; exact h1.1
    refine Ev.ite_pos h1 ?_
    refine Ev.val (r := l.all (stepIn (l.length : Int)) && lastStep l) (by unfold codeOk; rw [h1, Bool.true_and]) ?_
    refine all_loop (L := fun j k => impl_CodeOk.l0 k l l (l.length : Int) (j : Int)) l (stepIn (l.length : Int)) ?_ (fun j hj hp r ih => ?_) (fun j hj hp => ?_)
    · refine Ev.one fun k => ?_
      simp only [impl_CodeOk.l0]
      rw [if_neg (by omega), wrap_in (by omega) (by omega), if_pos (by omega), if_pos (by omega), rd_last_step l (by omega), last_step]
    · refine Ev.step (fun k => by simp only [impl_CodeOk.l0]; rw [if_pos (by omega), if_pos (by omega), if_pos (by omega), rd_step l j hj]) (Ev.bind (impl_StepOk_ev ..) ?_)
      refine Ev.ite_pos hp ?_
      rw [wrapS hj (by omega)]
      exact ih
    · refine Ev.step (fun k => by simp only [impl_CodeOk.l0]; rw [if_pos (by omega), if_pos (by omega), if_pos (by omega), rd_step l j hj]) (Ev.bind (impl_StepOk_ev ..) ?_)
      exact Ev.ite_neg (fun e => by have e' : stepIn (l.length : Int) l[j] = true := e; rw [hp] at e'; cases e') (Ev.now _)
  · refine Ev.ite_neg h1 ?_
    rw [codeOk, show inn (l.length : Int) 1 800 = false by simpa using h1, Bool.false_and]
    exact Ev.now _
def num (n : Int) : ByteArray := ⟨(Lib.itoa n).toArray⟩
def In64 (n : Int) : Prop := -9223372036854775808 ≤ n ∧ n ≤ 9223372036854775807
theorem num_size {n : Int} (h : In64 n) : (num n).size ≤ 21 := by
  show (Lib.itoa n).toArray.size ≤ 21
  rw [List.size_toArray]
  exact Lib.itoa_length_le n h.1 h.2
theorem impl_digits_eq {n : Int} (h : In64 n) : impl_digits.f n = some (num n) := if_pos h
theorem ba_append (a b : List UInt8) : (⟨a.toArray⟩ : ByteArray) ++ ⟨b.toArray⟩ = ⟨(a ++ b).toArray⟩ := by
  apply ByteArray.ext
  rw [ByteArray.data_append]
  simp
def dd (u : Nat) : List UInt8 := if u = 0 then [] else Lib.decDigits u
theorem dd_step {u : Nat} (h : u ≠ 0) : dd u = dd (u / 10) ++ [UInt8.ofNat (48 + u % 10)] := by
  unfold dd
  rw [if_neg h]
  by_cases c : u < 10
  · rw [if_pos (by omega), Lib.decDigits, dif_pos c, Nat.mod_eq_of_lt c]
    rfl
  · rw [if_neg (by omega), Lib.decDigits, dif_neg c]
theorem dd_length : ∀ {k u : Nat}, u < 10 ^ k → (dd u).length ≤ k
  | 0, u, h => by
    obtain rfl : u = 0 := by simpa using h
    simp [dd]
  | k + 1, u, h => by
    by_cases c : u = 0
    · subst c; simp [dd]
    · rw [dd_step c, List.length_append, List.length_singleton]
      have := dd_length (k := k) (u := u / 10) (by rw [Nat.pow_succ] at h; omega)
      omega
theorem one_char (d : Nat) (h : d < 10) : strOfNums [(48 + (d : Int)) % 256] = ⟨[UInt8.ofNat (48 + d)].toArray⟩ := by
  unfold strOfNums
  rw [List.map_cons, List.map_nil, show ((48 + (d : Int)) % 256).toNat = 48 + d by omega]
theorem digits_loop : ∀ (u : Nat) (x : Int) (neg : Bool) (s : ByteArray), x.natAbs = u → In64 x → s.size + (dd u).length ≤ 100 → Ev (fun k => spec_l2Digits.l0 k x neg s) ((if neg = true then (⟨#[45]⟩ : ByteArray) else ByteArray.empty) ++ (⟨(dd u).toArray⟩ ++ s)) := by
  intro u
  induction u using Nat.strongRecOn with
  | ind u ih =>
    intro x neg s hx hr hs
    by_cases h0 : x = 0
    · subst h0
      obtain rfl : u = 0 := by simpa using hx.symm
      have e0 : (⟨(dd 0).toArray⟩ : ByteArray) ++ s = s := ByteArray.empty_append
      rw [e0]
      refine Ev.step (fun k => by rw [spec_l2Digits.l0]) ?_
      refine Ev.ite_pos rfl ?_
      cases neg with
      | true => exact Ev.ite_pos rfl (Ev.ite_pos (by omega) (Ev.now _))
      | false =>
        refine Ev.ite_neg (by simp) ?_
        rw [if_neg (by simp), ByteArray.empty_append]
        exact Ev.now _
    · have hu : u ≠ 0 := by omega
      have hd : (dd u).length = (dd (u / 10)).length + 1 := by rw [dd_step hu]; simp
      have hsz : (strOfNums [(48 + ((u % 10 : Nat) : Int)) % 256]).size = 1 := by rw [one_char _ (by omega)]; rfl
      have next : ∀ y : Int, y.natAbs = u / 10 → In64 y → Ev (fun k => spec_l2Digits.l0 k y neg (strOfNums [(48 + ((u % 10 : Nat) : Int)) % 256] ++ s)) ((if neg = true then (⟨#[45]⟩ : ByteArray) else ByteArray.empty) ++ (⟨(dd u).toArray⟩ ++ s)) := by
        intro y hy hry
        refine Ev.val ?_ (ih (u / 10) (by omega) y neg _ hy hry (by rw [ByteArray.size_append, hsz]; omega))
        rw [one_char _ (by omega), dd_step hu, ← ba_append, ByteArray.append_assoc]
      refine Ev.step (fun k => by rw [spec_l2Digits.l0]) ?_
      refine Ev.ite_neg h0 ?_
      simp only [Option.bind_some]
      unfold In64 at hr
      rcases Int.le_total 0 x with hp | hp
      · obtain rfl : x = (u : Int) := by omega
        have em : Int.tmod (u : Int) 10 = ((u % 10 : Nat) : Int) := by rw [Int.tmod_eq_emod_of_nonneg (by omega)]; omega
        have ed : Int.tdiv (u : Int) 10 = ((u / 10 : Nat) : Int) := by rw [Int.tdiv_eq_ediv_of_nonneg (by omega)]; omega
        rw [em, ed]
        refine Ev.ite_neg (by omega) ?_
        rw [wrap_in (n := 48 + ((u % 10 : Nat) : Int)) (by omega) (by omega), wrap_in (n := ((u / 10 : Nat) : Int)) (by omega) (by omega)]
        refine Ev.ite_pos (by rw [hsz]; omega) ?_
        exact next _ (by omega) ⟨by omega, by omega⟩
      · obtain ⟨v, hv⟩ : ∃ v : Nat, v = u := ⟨u, rfl⟩
        obtain rfl : x = -(u : Int) := by omega
        have em : Int.tmod (-(u : Int)) 10 = -((u % 10 : Nat) : Int) := by rw [Int.neg_tmod, Int.tmod_eq_emod_of_nonneg (by omega)]; omega
        have ed : Int.tdiv (-(u : Int)) 10 = -((u / 10 : Nat) : Int) := by rw [Int.neg_tdiv, Int.tdiv_eq_ediv_of_nonneg (by omega)]; omega
        rw [em, ed, Int.neg_neg]
        have e3 : wrap64 (-((u / 10 : Nat) : Int)) = -((u / 10 : Nat) : Int) := wrap_in (by omega) (by omega)
        by_cases hz : -((u % 10 : Nat) : Int) < 0
        · refine Ev.ite_pos hz ?_
          rw [wrap_in (n := ((u % 10 : Nat) : Int)) (by omega) (by omega), wrap_in (n := 48 + ((u % 10 : Nat) : Int)) (by omega) (by omega), e3]
          refine Ev.ite_pos (by rw [hsz]; omega) ?_
          exact next _ (by omega) ⟨by omega, by omega⟩
        · refine Ev.ite_neg hz ?_
          have e0 : ((u % 10 : Nat) : Int) = 0 := by omega
          rw [show -((u % 10 : Nat) : Int) = ((u % 10 : Nat) : Int) by omega, wrap_in (n := 48 + ((u % 10 : Nat) : Int)) (by omega) (by omega), e3]
          refine Ev.ite_pos (by rw [hsz]; omega) ?_
          exact next _ (by omega) ⟨by omega, by omega⟩
theorem spec_l2Digits_ev {n : Int} (h : In64 n) : Ev (fun k => spec_l2Digits.f k n) (num n) := by
  simp only [spec_l2Digits.f]
  by_cases h0 : n = 0
  · subst h0
    refine Ev.ite_pos rfl ?_
    refine Ev.val (r := (⟨#[48]⟩ : ByteArray)) ?_ (Ev.now _)
    unfold num Lib.itoa
    rw [if_neg (by omega), Int.toNat_zero, Lib.decDigits, dif_pos (by omega)]
    rfl
  · refine Ev.ite_neg h0 ?_
    have hd : (dd n.natAbs).length ≤ 19 := dd_length (by unfold In64 at h; omega)
    refine Ev.val ?_ (digits_loop n.natAbs n (decide (n < 0)) (⟨#[]⟩ : ByteArray) rfl h (by show 0 + _ ≤ 100; omega))
    have e : ∀ x : ByteArray, x ++ (⟨#[]⟩ : ByteArray) = x := fun x => ByteArray.append_empty
    rw [e]
    unfold num Lib.itoa dd
    rw [if_neg (c := n.natAbs = 0) (by omega)]
    by_cases hn : n < 0
    · rw [if_pos (by simpa using hn), if_pos hn]
      exact ba_append [45] _
    · rw [if_neg (by simpa using hn), if_neg hn, ByteArray.empty_append, show n.toNat = n.natAbs by omega]
theorem sz_mk (a : Array UInt8) : (⟨a⟩ : ByteArray).size = a.size := rfl
def txt (l : List UInt8) : ByteArray := ⟨l.toArray⟩
theorem txt_mk (a : Array UInt8) : (⟨a⟩ : ByteArray) = txt a.toList := rfl
theorem txt_num (n : Int) : num n = txt (Lib.itoa n) := rfl
theorem txt_append (a b : List UInt8) : txt a ++ txt b = txt (a ++ b) := ba_append a b
theorem step_in {op r a b n : Int} (h : stepOk op r a b n 800 = true) : (1 ≤ op ∧ op ≤ 13) ∧ In64 r ∧ In64 a ∧ In64 b ∧ In64 n ∧ -1 ≤ a := by
  unfold stepOk at h
  rw [decide_eq_true_eq] at h
  obtain ⟨h1, h2, h3, h4⟩ := h
  unfold In64
  rcases h4 with h | h | h | h | h | h | h | h | h <;> omega
def regT (r : Int) : ByteArray := (⟨#[32, 114]⟩ : ByteArray) ++ num r
def cellT (op a n : Int) : ByteArray := if a < 0 ∨ op = 8 then ((⟨#[32, 91]⟩ : ByteArray) ++ num n) ++ (⟨#[93]⟩ : ByteArray) else ((((⟨#[32, 91]⟩ : ByteArray) ++ num n) ++ (⟨#[43, 114]⟩ : ByteArray)) ++ num a) ++ (⟨#[93]⟩ : ByteArray)
theorem regT_size {r : Int} (h : In64 r) : (regT r).size ≤ 23 := by
  have := num_size h
  simp only [regT, ByteArray.size_append, sz_mk, List.size_toArray, List.length_cons, List.length_nil]
  omega
theorem cellT_size {op a n : Int} (ha : In64 a) (hn : In64 n) : (cellT op a n).size ≤ 60 := by
  have := num_size ha
  have := num_size hn
  unfold cellT
  split <;> simp only [ByteArray.size_append, sz_mk, List.size_toArray, List.length_cons, List.length_nil] <;> omega
theorem spec_l16R_ev {r : Int} (h : In64 r) : Ev (fun k => spec_l16R.f k r) (regT r) := by
  have := num_size h
  simp only [spec_l16R.f]
  refine Ev.bind (spec_l2Digits_ev h) ?_
  exact Ev.ite_pos (by omega) (Ev.now _)
theorem spec_l16Cell_ev (op r a b n : Int) (ha : In64 a) (hn : In64 n) : Ev (fun k => spec_l16Cell.f k op r a b n) (cellT op a n) := by
  have h1 := num_size ha
  have h2 := num_size hn
  have key : ∀ q, (q = true ↔ (a < 0 ∨ op = 8)) → Ev (fun k => spec_l16Cell.j0 k q op r a b n) (cellT op a n) := by
    intro q hq
    refine Ev.step (fun k => by rw [spec_l16Cell.j0]) ?_
    unfold cellT
    by_cases hc : a < 0 ∨ op = 8
    · refine Ev.ite_pos (hq.2 hc) ?_
      rw [if_pos hc]
      refine Ev.bind (spec_l2Digits_ev hn) ?_
      refine Ev.ite_pos (by omega) (Ev.ite_pos (by (try simp only [ByteArray.size_append, sz_mk, List.size_toArray, List.length_cons, List.length_nil]); omega) (Ev.now _))
    · refine Ev.ite_neg (fun e => hc (hq.1 e)) ?_
      rw [if_neg hc]
      refine Ev.bind (spec_l2Digits_ev hn) ?_
      refine Ev.ite_pos (by omega) (Ev.ite_pos (by (try simp only [ByteArray.size_append, sz_mk, List.size_toArray, List.length_cons, List.length_nil]); omega) ?_)
      refine Ev.bind (spec_l2Digits_ev ha) ?_
      refine Ev.ite_pos (by (try simp only [ByteArray.size_append, sz_mk, List.size_toArray, List.length_cons, List.length_nil]); omega) (Ev.ite_pos (by (try simp only [ByteArray.size_append, sz_mk, List.size_toArray, List.length_cons, List.length_nil]); omega) (Ev.now _))
  simp only [spec_l16Cell.f]
  by_cases hc : a < 0
  · exact Ev.ite_pos hc (key true (by simp [hc]))
  · exact Ev.ite_neg hc (key (op == 8) (by simp [hc]))
def stepBody (op r a b n : Int) : ByteArray :=
  if op = 1 then ((⟨#[115, 101, 116]⟩ : ByteArray) ++ regT r) ++ ((⟨#[32]⟩ : ByteArray) ++ num n)
  else if op = 2 then (((⟨#[97, 100, 100]⟩ : ByteArray) ++ regT r) ++ regT a) ++ regT b
  else if op = 3 then (((⟨#[115, 117, 98]⟩ : ByteArray) ++ regT r) ++ regT a) ++ regT b
  else if op = 4 then (((⟨#[108, 101, 115, 115]⟩ : ByteArray) ++ regT r) ++ regT a) ++ regT b
  else if op = 5 then ((⟨#[108, 111, 97, 100]⟩ : ByteArray) ++ regT r) ++ cellT op a n
  else if op = 6 then ((⟨#[115, 116, 111, 114, 101]⟩ : ByteArray) ++ cellT op a n) ++ regT b
  else if op = 7 then ((⟨#[108, 101, 116]⟩ : ByteArray) ++ cellT op a n) ++ regT b
  else if op = 8 then (((⟨#[115, 119, 97, 112]⟩ : ByteArray) ++ regT r) ++ cellT op a n) ++ regT b
  else if op = 9 then (⟨#[112, 114, 105, 110, 116]⟩ : ByteArray) ++ regT a
  else if op = 10 then (⟨#[106, 117, 109, 112]⟩ : ByteArray) ++ ((⟨#[32]⟩ : ByteArray) ++ num n)
  else if op = 11 then ((⟨#[122, 101, 114, 111]⟩ : ByteArray) ++ regT a) ++ ((⟨#[32]⟩ : ByteArray) ++ num n)
  else if op = 12 then (⟨#[101, 110, 100]⟩ : ByteArray) else (⟨#[102, 97, 117, 108, 116]⟩ : ByteArray)
def stepText (op r a b n : Int) : ByteArray := if stepOk op r a b n 800 = true then stepBody op r a b n else (⟨#[]⟩ : ByteArray)
theorem spec_StepText_ev (op r a b n : Int) : Ev (fun k => spec_StepText.f k op r a b n) (stepText op r a b n) := by
  simp only [spec_StepText.f]
  refine Ev.bind (spec_StepOk_ev ..) ?_
  unfold stepText
  by_cases h : stepOk op r a b n 800 = true
  · refine Ev.ite_pos h ?_
    rw [if_pos h]
    obtain ⟨_, hr, ha, hb, hn, _⟩ := step_in h
    have sr := regT_size hr
    have sa := regT_size ha
    have sb := regT_size hb
    have sn := num_size hn
    have sc := cellT_size (op := op) ha hn
    refine Ev.bind (spec_l16R_ev hr) ?_
    refine Ev.bind (spec_l16R_ev ha) ?_
    refine Ev.bind (spec_l16R_ev hb) ?_
    refine Ev.bind (spec_l2Digits_ev hn) ?_
    refine Ev.ite_pos (by omega) ?_
    unfold stepBody
    have sz : ∀ {p : Prop} [Decidable p] {g : Nat → Option ByteArray} {x : ByteArray}, p → Ev g x → Ev (fun k => if p then g k else none) x := fun hp hg => Ev.ite_pos hp hg
    rcases op_cases op with rfl | rfl | rfl | rfl | rfl | rfl | rfl | rfl | rfl | rfl | rfl | rfl | rfl | h'
    case inr.inr.inr.inr.inr.inr.inr.inr.inr.inr.inr.inr.inr => omega
    all_goals
      simp (decide := true) only [if_true, if_false]
      repeat' first
        | with_reducible exact Ev.now _
        | (with_reducible refine Ev.bind (spec_l16Cell_ev _ _ _ _ _ ha hn) ?_)
        | (with_reducible refine sz (by (try simp only [ByteArray.size_append, sz_mk, List.size_toArray, List.length_cons, List.length_nil]); omega) ?_)
  · refine Ev.ite_neg h ?_
    rw [if_neg h]
    exact Ev.now _
theorem impl_reg_eq {r : Int} (h : In64 r) : impl_reg.f r = some ((⟨#[114]⟩ : ByteArray) ++ num r) := by
  have := num_size h
  simp only [impl_reg.f, impl_digits_eq h, Option.bind_some]
  rw [if_pos (by omega)]
theorem impl_threeText_eq (op r a b n : Int) (hr : In64 r) (ha : In64 a) (hb : In64 b) : ∃ t, impl_threeText.f op r a b n = some t ∧ (⟨#[32]⟩ : ByteArray) ++ t = (regT r ++ regT a) ++ regT b ∧ t.size ≤ 100 := by
  have h1 := num_size hr
  have h2 := num_size ha
  have h3 := num_size hb
  refine ⟨((((((⟨#[114]⟩ : ByteArray) ++ num r) ++ (⟨#[32]⟩ : ByteArray)) ++ ((⟨#[114]⟩ : ByteArray) ++ num a)) ++ (⟨#[32]⟩ : ByteArray)) ++ ((⟨#[114]⟩ : ByteArray) ++ num b)), ?_, ?_, ?_⟩
  · simp only [impl_threeText.f, impl_reg_eq hr, impl_reg_eq ha, impl_reg_eq hb, Option.bind_some]
    rw [if_pos (by (try simp only [ByteArray.size_append, sz_mk, List.size_toArray, List.length_cons, List.length_nil]); omega), if_pos (by (try simp only [ByteArray.size_append, sz_mk, List.size_toArray, List.length_cons, List.length_nil]); omega), if_pos (by (try simp only [ByteArray.size_append, sz_mk, List.size_toArray, List.length_cons, List.length_nil]); omega), if_pos (by (try simp only [ByteArray.size_append, sz_mk, List.size_toArray, List.length_cons, List.length_nil]); omega)]
  · simp [regT, txt_mk, txt_num, txt_append]
  · simp only [ByteArray.size_append, sz_mk, List.size_toArray, List.length_cons, List.length_nil]; omega
theorem impl_cellText_ev (op r a b n : Int) (ha : In64 a) (hn : In64 n) : ∃ t, Ev (fun k => impl_cellText.f k op r a b n) t ∧ (⟨#[32]⟩ : ByteArray) ++ t = cellT op a n ∧ t.size ≤ 100 := by
  have h1 := num_size ha
  have h2 := num_size hn
  have key : ∀ q, (q = false ↔ (a < 0 ∨ op = 8)) → ∃ t, Ev (fun k => impl_cellText.j0 k q op r a b n) t ∧ (⟨#[32]⟩ : ByteArray) ++ t = cellT op a n ∧ t.size ≤ 100 := by
    intro q hq
    unfold cellT
    cases q with
    | true =>
      have hc : ¬ (a < 0 ∨ op = 8) := fun e => by have := hq.2 e; cases this
      rw [if_neg hc]
      refine ⟨((((((⟨#[91]⟩ : ByteArray) ++ num n) ++ (⟨#[43]⟩ : ByteArray)) ++ ((⟨#[114]⟩ : ByteArray) ++ num a))) ++ (⟨#[93]⟩ : ByteArray)), Ev.one fun k => ?_, ?_, ?_⟩
      · rw [impl_cellText.j0, if_pos rfl, impl_digits_eq hn, Option.bind_some, if_pos (by omega), if_pos (by (try simp only [ByteArray.size_append, sz_mk, List.size_toArray, List.length_cons, List.length_nil]); omega), impl_reg_eq ha, Option.bind_some, if_pos (by (try simp only [ByteArray.size_append, sz_mk, List.size_toArray, List.length_cons, List.length_nil]); omega), if_pos (by (try simp only [ByteArray.size_append, sz_mk, List.size_toArray, List.length_cons, List.length_nil]); omega)]
      · simp [txt_mk, txt_num, txt_append]
      · simp only [ByteArray.size_append, sz_mk, List.size_toArray, List.length_cons, List.length_nil]; omega
    | false =>
      rw [if_pos (hq.1 rfl)]
      refine ⟨((⟨#[91]⟩ : ByteArray) ++ num n) ++ (⟨#[93]⟩ : ByteArray), Ev.one fun k => ?_, ?_, ?_⟩
      · rw [impl_cellText.j0, if_neg (by simp), impl_digits_eq hn, Option.bind_some, if_pos (by omega), if_pos (by (try simp only [ByteArray.size_append, sz_mk, List.size_toArray, List.length_cons, List.length_nil]); omega)]
      · simp [txt_mk, txt_num, txt_append]
      · simp only [ByteArray.size_append, sz_mk, List.size_toArray, List.length_cons, List.length_nil]; omega
  simp only [impl_cellText.f]
  by_cases hc : op = 8
  · obtain ⟨t, e, h⟩ := key false (by simp [hc])
    exact ⟨t, Ev.ite_pos hc e, h⟩
  · obtain ⟨t, e, h⟩ := key (decide (a ≥ 0)) (by simp [hc]; )
    exact ⟨t, Ev.ite_neg hc e, h⟩
theorem impl_StepText_ev (op r a b n : Int) : Ev (fun k => impl_StepText.f k op r a b n) (stepText op r a b n) := by
  simp only [impl_StepText.f]
  refine Ev.bind (impl_StepOk_ev ..) ?_
  unfold stepText
  by_cases h : stepOk op r a b n 800 = true
  · refine Ev.ite_pos h ?_
    rw [if_pos h]
    obtain ⟨_, hr, ha, hb, hn, _⟩ := step_in h
    have sr := num_size hr
    have sa := num_size ha
    have sb := num_size hb
    have sn := num_size hn
    obtain ⟨t3, e3, q3, s3⟩ := impl_threeText_eq op r a b n hr ha hb
    obtain ⟨tc, ec, qc, sc⟩ := impl_cellText_ev op r a b n ha hn
    have sz : ∀ {p : Prop} [Decidable p] {g : Nat → Option ByteArray} {x : ByteArray}, p → Ev g x → Ev (fun k => if p then g k else none) x := fun hp hg => Ev.ite_pos hp hg
    have q3' : ∀ x : ByteArray, ((x ++ regT r) ++ regT a) ++ regT b = x ++ ((⟨#[32]⟩ : ByteArray) ++ t3) := by
      intro x
      rw [q3]
      simp only [ByteArray.append_assoc]
    obtain ⟨l3, rfl⟩ : ∃ l, t3 = txt l := ⟨t3.data.toList, rfl⟩
    obtain ⟨lc, rfl⟩ : ∃ l, tc = txt l := ⟨tc.data.toList, rfl⟩
    have fin : ∀ {g : Nat → Option ByteArray} {x y : ByteArray}, Ev g x → x = y → Ev g y := fun e h => h ▸ e
    simp only [impl_reg_eq hr, impl_reg_eq ha, impl_reg_eq hb, impl_digits_eq hn, Option.bind_some]
    unfold stepBody
    rcases op_cases op with rfl | rfl | rfl | rfl | rfl | rfl | rfl | rfl | rfl | rfl | rfl | rfl | rfl | h'
    case inr.inr.inr.inr.inr.inr.inr.inr.inr.inr.inr.inr.inr => omega
    all_goals
      simp (decide := true) only [if_true, if_false, e3, Option.bind_some, ← qc]
      refine fin (x := ?_) ?_ ?_
      rotate_left
      · repeat' first
          | with_reducible exact Ev.now _
          | (with_reducible refine Ev.bind ec ?_)
          | (with_reducible refine sz (by (try simp only [ByteArray.size_append, sz_mk, List.size_toArray, List.length_cons, List.length_nil]); omega) ?_)
      · first
          | rfl
          | (simp [regT, txt_mk, txt_num, txt_append]; done)
          | (rw [q3']; simp [txt_mk, txt_append]; done)
  · refine Ev.ite_neg h ?_
    rw [if_neg h]
    exact Ev.now _
def codeLines (s : ByteArray) : List S46 → ByteArray
  | [] => s
  | x :: l => codeLines (s ++ (stepText x.f0 x.f1 x.f2 x.f3 x.f4 ++ (⟨#[10]⟩ : ByteArray))) l
def codeText (l : List S46) : ByteArray := if codeOk l = true then codeLines (⟨#[]⟩ : ByteArray) l else (⟨#[]⟩ : ByteArray)
theorem stepText_size (op r a b n : Int) : (stepText op r a b n).size ≤ 200 := by
  unfold stepText
  by_cases h : stepOk op r a b n 800 = true
  · rw [if_pos h]
    obtain ⟨_, hr, ha, hb, hn, _⟩ := step_in h
    have sr := regT_size hr
    have sa := regT_size ha
    have sb := regT_size hb
    have sn := num_size hn
    have sc := cellT_size (op := op) ha hn
    unfold stepBody
    rcases op_cases op with rfl | rfl | rfl | rfl | rfl | rfl | rfl | rfl | rfl | rfl | rfl | rfl | rfl | h'
    case inr.inr.inr.inr.inr.inr.inr.inr.inr.inr.inr.inr.inr => omega
    all_goals
      simp (decide := true) only [if_true, if_false, ByteArray.size_append, sz_mk, List.size_toArray, List.length_cons, List.length_nil]
      try omega
  · rw [if_neg h]
    show 0 ≤ 200
    omega
theorem stepLine_size (x : S46) : (stepText x.f0 x.f1 x.f2 x.f3 x.f4 ++ (⟨#[10]⟩ : ByteArray)).size = (stepText x.f0 x.f1 x.f2 x.f3 x.f4).size + 1 := by
  rw [ByteArray.size_append]; rfl
theorem impl_CodeText_l0 (l : List S46) (hl : l.length ≤ 1000) : ∀ d (j : Nat) (s : ByteArray), j + d = l.length → s.size + 201 * d ≤ 1000000000 → Ev (fun k => impl_CodeText.l0 k s l (l.length : Int) (j : Int)) (codeLines s (l.drop j)) := by
  intro d
  induction d with
  | zero =>
    intro j s hj hs
    obtain rfl : j = l.length := by omega
    rw [List.drop_length, codeLines]
    exact Ev.one fun k => by rw [impl_CodeText.l0, if_neg (by omega)]
  | succ d ih =>
    intro j s hj hs
    have h : j < l.length := by omega
    rw [List.drop_eq_getElem_cons h, codeLines]
    have h2 := stepText_size l[j].f0 l[j].f1 l[j].f2 l[j].f3 l[j].f4
    have h3 := stepLine_size l[j]
    refine Ev.step (fun k => by rw [impl_CodeText.l0, if_pos (by omega), if_pos (by omega), if_pos (by omega), rd_step l j h]) (Ev.bind (impl_StepText_ev ..) ?_)
    refine Ev.ite_pos (by omega) (Ev.ite_pos (by omega) ?_)
    rw [wrapS h (by omega)]
    exact ih (j + 1) _ (by omega) (by rw [ByteArray.size_append]; omega)
theorem spec_CodeText_l0 (l : List S46) (hl : l.length ≤ 1000) (ho : codeOk l = true) : ∀ d (j : Nat) (s : ByteArray), j + d = l.length → s.size + 201 * d ≤ 1000000000 → Ev (fun k => spec_CodeText.l0 k l s (j : Int)) (codeLines s (l.drop j)) := by
  intro d
  induction d with
  | zero =>
    intro j s hj hs
    obtain rfl : j = l.length := by omega
    rw [List.drop_length, codeLines]
    exact Ev.one fun k => by rw [spec_CodeText.l0, if_neg (by omega)]
  | succ d ih =>
    intro j s hj hs
    have h : j < l.length := by omega
    rw [List.drop_eq_getElem_cons h, codeLines]
    have h2 := stepText_size l[j].f0 l[j].f1 l[j].f2 l[j].f3 l[j].f4
    have h3 := stepLine_size l[j]
    refine Ev.step (fun k => by rw [spec_CodeText.l0, if_pos (by omega)]) (Ev.bind (spec_CodeOk_ev l (by omega)) ?_)
    refine Ev.ite_pos ho (Ev.ite_pos (by omega) ?_)
    rw [rd_step l j h]
    refine Ev.bind (spec_StepText_ev ..) ?_
    refine Ev.ite_pos (by omega) (Ev.ite_pos (by rw [ByteArray.size_append]; omega) ?_)
    rw [wrapS h (by omega), ByteArray.append_assoc]
    exact ih (j + 1) _ (by omega) (by rw [ByteArray.size_append]; omega)
theorem code_len {l : List S46} (h : codeOk l = true) : l.length ≤ 800 := by
  unfold codeOk inn at h
  simp only [Bool.and_eq_true, decide_eq_true_eq] at h
  have := h.1.2
  omega
theorem impl_CodeText_ev (l : List S46) (hl : l.length ≤ 1048576) : Ev (fun k => impl_CodeText.f k l) (codeText l) := by
  simp only [impl_CodeText.f]
  refine Ev.bind (impl_CodeOk_ev l hl) ?_
  unfold codeText
  by_cases h : codeOk l = true
  · refine Ev.ite_pos h ?_
    rw [if_pos h]
    have := code_len h
    exact impl_CodeText_l0 l (by omega) l.length 0 _ (by omega) (by show 0 + _ ≤ _; omega)
  · refine Ev.ite_neg h ?_
    rw [if_neg h]
    exact Ev.now _
theorem spec_CodeText_ev (l : List S46) (hl : l.length ≤ 1048576) : Ev (fun k => spec_CodeText.f k l) (codeText l) := by
  simp only [spec_CodeText.f]
  unfold codeText
  by_cases h : codeOk l = true
  · rw [if_pos h]
    have := code_len h
    exact spec_CodeText_l0 l (by omega) h l.length 0 _ (by omega) (by show 0 + _ ≤ _; omega)
  · rw [if_neg h]
    by_cases hn : (0 : Int) < (l.length : Int)
    · refine Ev.step (fun k => by rw [spec_CodeText.l0, if_pos hn]) (Ev.bind (spec_CodeOk_ev l (by omega)) ?_)
      exact Ev.ite_neg h (Ev.now _)
    · exact Ev.one fun k => by rw [spec_CodeText.l0, if_neg hn]
theorem FnExactCodeText (x0 : (List S44)) (ok0 : (x0.length ≤ maxLen ∧ ∀ z ∈ x0, (((Lit.int .i64 z.f0).wf = true) ∧ (((Lit.int .i64 z.f1).wf = true) ∧ (((Lit.int .i64 z.f2).wf = true) ∧ (((Lit.int .i64 z.f3).wf = true) ∧ ((Lit.int .i64 z.f4).wf = true))))))) : ∃ k, laws_FnExactCodeText.f k x0 = some true := by
  have hl : x0.length ≤ 9223372036854775807 := by have := ok0.1; unfold maxLen at this; omega
  refine Ev.rounds (g := fun k => laws_FnExactCodeText.f k x0) ?_
  simp only [laws_FnExactCodeText.f]
  refine Ev.bind (szStepS_ev x0 1048576 (by omega) (by omega) hl) ?_
  by_cases h : (x0.length : Int) ≤ 1048576
  case neg => rw [left?_no h]; exact Ev.ite_pos (by omega) (Ev.now _)
  rw [left?_yes h]
  refine Ev.ite_neg (by omega) ?_
  have hm : (x0.map cvStep).length ≤ 1048576 := by simp; omega
  refine Ev.bind (toStepS_ev x0 (by omega)) ?_
  refine Ev.bind (spec_CodeText_ev _ hm) ?_
  refine Ev.bind (toStepS_ev x0 (by omega)) ?_
  refine Ev.bind (impl_CodeText_ev _ hm) ?_
  refine Ev.ite_pos rfl ?_
  refine Ev.bind (toStepS_ev x0 (by omega)) ?_
  refine Ev.bind (eqStepS_self _ hm) ?_
  simp only [if_true]
  exact Ev.now _
end Go.Proofs.YtkjfcmgpplapeaaDoor.Pure
namespace Go.Proofs.YtkjfcmgpplapeaaDoor.Rd
open Go.RowKit Go.Proofs.YtkjfcmgpplapeaaDoorW.PrintWords Go.ChangeShapes Go.WideShapes
set_option linter.unusedVariables false
def Opens {α : Type} (P : Program) (t : TypeId) (d : Kd α) (ok : α → Prop) : Prop :=
  ∀ (H : Type) (enc : TypeId × Value → H) (w : World) (base : Nat) (spare : Nat → Bool) (held : Bool) (fuel : Nat) (cs : List Value) (x : DataW H × List MemPlace),
    DataW.trod enc P w base spare held fuel t cs = some x → ∃ y, d.K w y cs ∧ ok y
theorem Opens.int {P : Program} {t : TypeId} {k : IntKind} (ht : P.underlying t = some (.int k)) : Opens P t (Kd.int k) (fun n => (Lit.int k n).wf = true) := by
  intro H enc w base spare held fuel cs x h
  obtain ⟨n, rfl, _, hw⟩ := DataW.trod_int ht h
  exact ⟨n, rfl, hw⟩
theorem Opens.bool {P : Program} {t : TypeId} (ht : P.underlying t = some .bool) : Opens P t Kd.bool (fun _ => True) := by
  intro H enc w base spare held fuel cs x h
  obtain ⟨n, rfl, _⟩ := DataW.trod_bool ht h
  exact ⟨n, rfl, trivial⟩
theorem Opens.string {P : Program} {t : TypeId} (ht : P.underlying t = some .string) : Opens P t Kd.string (fun s => s.size ≤ maxLen) := by
  intro H enc w base spare held fuel cs x h
  obtain ⟨n, rfl, _, hs⟩ := DataW.trod_string ht h
  exact ⟨n, rfl, hs⟩
theorem Opens.weaken {α : Type} {P : Program} {t : TypeId} {d : Kd α} {ok ok' : α → Prop} (h : Opens P t d ok) (hk : ∀ x, ok x → ok' x) : Opens P t d ok' := by
  intro H enc w base spare held fuel cs x hx
  obtain ⟨y, hy, o⟩ := h H enc w base spare held fuel cs x hx
  exact ⟨y, hy, hk y o⟩
theorem list_of {α : Type} {Q : Nat → α → Prop} : ∀ n : Nat, (∀ i, i < n → ∃ y, Q i y) → ∃ ys : List α, ys.length = n ∧ ∀ i y, ys[i]? = some y → Q i y := by
  intro n
  induction n with
  | zero => exact fun _ => ⟨[], rfl, fun i y h => by simp at h⟩
  | succ n ih =>
    intro h
    obtain ⟨ys, hl, hq⟩ := ih (fun i hi => h i (by omega))
    obtain ⟨y, hy⟩ := h n (by omega)
    refine ⟨ys ++ [y], by simp [hl], fun i z hz => ?_⟩
    rcases Nat.lt_or_ge i ys.length with hi | hi
    · rw [List.getElem?_append_left hi] at hz
      exact hq i z hz
    · rw [List.getElem?_append_right hi] at hz
      have h0 : i - ys.length = 0 := by
        have := (List.getElem?_eq_some_iff.1 hz).1
        simp at this
        omega
      rw [h0] at hz
      simp at hz
      subst hz
      have : i = n := by omega
      rw [this]
      exact hy
theorem Opens.slice {α : Type} {P : Program} {t e : TypeId} (q : Nat) {d : Kd α} {ok : α → Prop} (ht : P.underlying t = some (.slice e)) (hs : P.cellsOf e = d.sz) (he : Opens P e d ok) :
    Opens P t (Kd.slice q d) (fun xs => xs.length ≤ maxLen ∧ ∀ x ∈ xs, ok x) := by
  intro H enc w base spare held fuel cs x h
  rcases DataW.trod_slice ht h with ⟨rfl, _⟩ | ⟨a, len, cap, elems, rest, n, _, rfl, _, _, hl, hm, hlen, hel, _, _⟩
  · exact ⟨[], ⟨none, 0, rfl, Nat.le_refl _, rfl, by simp, fun hp => absurd hp (by simp)⟩, by simp, by simp⟩
  · have each : ∀ i, i < len → ∃ y, ∃ c, w.cells? base (a.add (i * d.sz)) d.sz = some c ∧ d.K w y c ∧ ok y := by
      intro i hi
      have h1 := hel i hi
      rw [List.getElem?_eq_getElem (by omega), Option.bind_eq_some_iff, hs] at h1
      obtain ⟨c, hc, hx⟩ := h1
      obtain ⟨y, hy, ho⟩ := he H enc w base spare held n c _ hx
      exact ⟨y, c, hc, hy, ho⟩
    obtain ⟨ys, hyl, hq⟩ := list_of len each
    have hm' : len ≤ 9223372036854775807 := by unfold maxLen at hm; omega
    refine ⟨ys, ⟨some a, cap, by rw [hyl], by omega, rfl, by omega, fun _ => ⟨a, rfl, fun j p hj => ?_⟩⟩, by omega, fun y hy => ?_⟩
    · obtain ⟨c, hc, hk, _⟩ := hq j p hj
      obtain ⟨_, hcl, hcell⟩ := World.cells?_some hc
      refine ⟨c, hcl, hk, fun i u hu => ?_⟩
      have hi : i < d.sz := by
        have := (List.getElem?_eq_some_iff.1 hu).1
        omega
      rw [← Addr.add_add, hcell i hi, hu]
    · obtain ⟨i, hi⟩ := List.getElem?_of_mem hy
      obtain ⟨c, _, _, ho⟩ := hq i y hi
      exact ho
def OpensAt {α : Type} (P : Program) (fs : List Field) (off : Nat) (d : Kd α) (ok : α → Prop) : Prop :=
  ∀ (H : Type) (enc : TypeId × Value → H) (w : World) (base : Nat) (spare : Nat → Bool) (held : Bool) (n : Nat) (cs : List Value), cs.length = off + d.sz →
    (∀ f ∈ fs, ∃ y, DataW.trod enc P w base spare held n f.type ((cs.drop f.offset).take (P.cellsOf f.type)) = some y) → ∃ y, d.K w y (cs.drop off) ∧ ok y
theorem OpensAt.one {α : Type} {P : Program} {f : Field} {off : Nat} {d : Kd α} {ok : α → Prop} (ho : f.offset = off) (hs : P.cellsOf f.type = d.sz) (h : Opens P f.type d ok) : OpensAt P [f] off d ok := by
  intro H enc w base spare held n cs hl hf
  obtain ⟨x, hx⟩ := hf f (by simp)
  rw [ho, hs, List.take_of_length_le (by simp; omega)] at hx
  exact h _ _ _ _ _ _ _ _ _ hx
theorem OpensAt.cons {α β : Type} {P : Program} {f : Field} {fs : List Field} {off : Nat} {a : Kd α} {b : Kd β} {oka : α → Prop} {okb : β → Prop} (ho : f.offset = off) (hs : P.cellsOf f.type = a.sz) (h : Opens P f.type a oka)
    (hr : OpensAt P fs (off + a.sz) b okb) : OpensAt P (f :: fs) off (Kd.pair a b) (fun x => oka x.1 ∧ okb x.2) := by
  intro H enc w base spare held n cs hl hf
  obtain ⟨x, hx⟩ := hf f (by simp)
  rw [ho, hs] at hx
  obtain ⟨y, hy, oy⟩ := h _ _ _ _ _ _ _ _ _ hx
  have hl' : cs.length = (off + a.sz) + b.sz := by rw [hl]; show off + (a.sz + b.sz) = _; omega
  obtain ⟨z, hz, oz⟩ := hr H enc w base spare held n cs hl' (fun g hg => hf g (by simp [hg]))
  refine ⟨(y, z), ⟨_, _, ?_, hy, hz⟩, oy, oz⟩
  rw [← List.drop_drop]
  exact (List.take_append_drop _ _).symm
theorem Opens.struct {α : Type} {P : Program} {t : TypeId} {fs : List Field} {d : Kd α} {ok : α → Prop} (ht : P.underlying t = some (.struct (List.toArray fs))) (hs : P.cellsOf t = d.sz) (h : OpensAt P fs 0 d ok) : Opens P t d ok := by
  intro H enc w base spare held fuel cs x hx
  obtain ⟨xs, n, _, _, hl, hlen, hf⟩ := DataW.trod_struct ht hx
  obtain ⟨y, hy, oy⟩ := h H enc w base spare held n cs (by omega) (fun f hm => by
    obtain ⟨i, hi⟩ := List.getElem?_of_mem hm
    have hi' : (List.toArray fs)[i]? = some f := by simpa using hi
    have h1 := hf i f hi'
    have hlt : i < xs.length := by
      have := (Array.getElem?_eq_some_iff.1 hi').1
      omega
    rw [List.getElem?_eq_getElem hlt] at h1
    exact ⟨_, h1⟩)
  exact ⟨y, by simpa using hy, oy⟩
theorem Opens.iso {α β : Type} {P : Program} {t : TypeId} {d : Kd α} {ok : α → Prop} (f : β → α) (g : α → β) (hg : ∀ x, f (g x) = x) (h : Opens P t d ok) : Opens P t (Kd.iso d f) (fun y => ok (f y)) := by
  intro H enc w base spare held fuel cs x hx
  obtain ⟨y, hy, o⟩ := h H enc w base spare held fuel cs x hx
  refine ⟨g y, ?_, ?_⟩
  · show d.K w (f (g y)) cs
    rw [hg]
    exact hy
  · show ok (f (g y))
    rw [hg]
    exact o
theorem Opens.at_slice {α : Type} {P : Program} {t : TypeId} {q : Nat} {d : Kd α} {ok : List α → Prop} (h : Opens P t (Kd.slice q d) ok) {H : Type} {enc : TypeId × Value → H} {w : World} {base : Nat} {spare : Nat → Bool} {held : Bool} {v : Value} {x : DataW H} {ps : List MemPlace}
    {e : TypeId} {r : Reach} {b0 : Nat} (hu : P.underlying t = some (.slice e)) (hv : Value.okWide P w r b0 t v) (hx : DataW.Trod enc P w base spare held t v x ps) : ∃ xs A c, v = .slice A xs.length c ∧ xs.length ≤ c ∧ d.C w A xs.length xs ∧ ok xs := by
  obtain ⟨a, len, cap, rfl⟩ := okWide_slice hu hv
  obtain ⟨fuel, hf⟩ := hx
  obtain ⟨xs, ⟨A, c, hcs, hl, hC⟩, o⟩ := h _ _ _ _ _ _ _ _ _ hf
  refine ⟨xs, A, c, ?_, hl, hC, o⟩
  simpa [Value.cells] using hcs
end Go.Proofs.YtkjfcmgpplapeaaDoor.Rd
namespace Go.Proofs.YtkjfcmgpplapeaaDoor.Tab
open Go.RowKit
theorem tab_data : (Rows.laid_internal_strconv_uint64pow10 : DataW Unit) = Lib.tabData .u64 Lib.pow10Tab := by kernel_rfl
set_option maxRecDepth 100000 in
theorem of_laid {W : World} (h : laidMetH Tryd.prog [("math/bits.deBruijn32tab", Rows.laid_math_bits_deBruijn32tab), ("math/bits.deBruijn64tab", Rows.laid_math_bits_deBruijn64tab), ("internal/strconv.uint64pow10", Rows.laid_internal_strconv_uint64pow10)] W) : Laid W := by
  rw [MakeChecks.laidMetH_plain _ _ _ (by kernel_rfl)] at h
  obtain ⟨ps, ⟨g0, t0, cs0, f0, p0, q0, hg0, ht0, hv0, hd0, ⟨g1, t1, cs1, f1, p1, q1, hg1, ht1, hv1, hd1, ⟨g2, t2, cs2, f2, p2, q2, hg2, ht2, hv2, hd2, _, _⟩, _⟩, _⟩, _, _⟩ := h
  rw [tab_data] at hd2
  obtain rfl := Option.some.inj ((show Tryd.prog.globalNamed "internal/strconv.uint64pow10" = some 3 by kernel_rfl).symm.trans hg2)
  obtain rfl := Option.some.inj ((show (Tryd.prog.globals[3]?).map (·.type) = some 196 by kernel_rfl).symm.trans ht2)
  unfold Laid Lib.TabIs
  rw [hv2, ← Lib.cells_of_tab (n := 20) Tryd.underlying196 Tryd.underlying178 (by kernel_rfl) (by kernel_rfl) hd2]
end Go.Proofs.YtkjfcmgpplapeaaDoor.Tab
