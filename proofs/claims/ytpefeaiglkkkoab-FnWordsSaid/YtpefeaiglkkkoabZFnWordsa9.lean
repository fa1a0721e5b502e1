/- A part of the proof that the law FnWords holds for every input: the words, functions and walks that its row needs, without a condition of their own. -/
import Derived.ProofKit
import Derived.DataElems
import Derived.ChangeArms
import Derived.SizedLaws
import Derived.Test.YtpefeaiglkkkoabZFnWordsa0
import Derived.Test.YtpefeaiglkkkoabZFnWordsa8
namespace Go.Proofs.Ytpefeaiglkkkoab.Lp
open Go.RowKit Go.Proofs.YtpefeaiglkkkoabW.PrintWords
set_option linter.unusedVariables false
set_option linter.unusedSimpArgs false
theorem wrapS {j n : Nat} (h : j < n) (hn : n ≤ 9223372036854775807) : wrap64 ((j : Int) + 1) = ((j + 1 : Nat) : Int) := by
  unfold wrap64; omega
theorem wrap_in {n : Int} (h0 : -9223372036854775808 ≤ n) (h1 : n ≤ 9223372036854775807) : wrap64 n = n := by
  unfold wrap64; omega
theorem rd_get {xs : List Int} {j : Nat} (h : j < xs.length) : rd xs (j : Int) = xs[j] := by simp [rd, List.getD_eq_getElem?_getD, h]
theorem Ev.one {α : Type} {g : Nat → Option α} {r : α} (h : ∀ k, g (k + 1) = some r) : Ev g r := ⟨1, fun k hk => by
  obtain ⟨m, rfl⟩ : ∃ m, k = m + 1 := ⟨k - 1, by omega⟩
  exact h m⟩
theorem Ev.all {α : Type} {g : Nat → Option α} {r : α} (h : ∀ k, g k = some r) : Ev g r := ⟨0, fun k _ => h k⟩
theorem Ev.ite_pos {α : Type} {c : Prop} [Decidable c] {g f : Nat → Option α} {r : α} (h : c) (k : Ev g r) : Ev (fun n => if c then g n else f n) r := by simp only [if_pos h]; exact k
theorem Ev.ite_neg {α : Type} {c : Prop} [Decidable c] {g f : Nat → Option α} {r : α} (h : ¬ c) (k : Ev f r) : Ev (fun n => if c then g n else f n) r := by simp only [if_neg h]; exact k
end Go.Proofs.Ytpefeaiglkkkoab.Lp
namespace Go.Proofs.Ytpefeaiglkkkoab.Pure
open Go.RowKit Go.Proofs.Ytpefeaiglkkkoab.PFnWords Go.Proofs.YtpefeaiglkkkoabW.PrintWords Go.Proofs.YtpefeaiglkkkoabW.PrintLast Go.Proofs.Ytpefeaiglkkkoab.Lp
set_option linter.unusedVariables false
set_option linter.unusedSimpArgs false
theorem and255 (n : Int) : Go.bits .and .i64 n 255 = n % 256 := by
  have h : (BitVec.ofInt 64 255).toNat = 2 ^ 8 - 1 := by decide
  have key : (BitVec.ofInt 64 n &&& BitVec.ofInt 64 255).toNat = (n % ((2 ^ 64 : Nat) : Int)).toNat % 2 ^ 8 := by
    rw [BitVec.toNat_and, BitVec.toNat_ofInt, h, Nat.and_two_pow_sub_one_eq_mod]
  show IntKind.i64.wrap ((BitVec.ofInt 64 n &&& BitVec.ofInt 64 255).toNat : Nat) = n % 256
  rw [key, IntKind.wrap_i64]
  omega
def Cur (b : List Int) (i : Int) : Prop := 0 ≤ i ∧ i ≤ (b.length : Int) ∧ (b.length : Int) ≤ 1048576
theorem l1Byte_eq (b : List Int) (i h : Int) (c : Cur b i) : ∃ x i' h', spec_l1Byte.f b i h = some (x, i', h') ∧ (0 ≤ x ∧ x ≤ 255) ∧ Cur b i' := by
  obtain ⟨c0, c1, c2⟩ := c
  unfold spec_l1Byte.f
  by_cases e : i < (b.length : Int)
  · rw [if_pos e, if_pos c0, and255, wrap_in (n := i + 1) (by omega) (by omega)]
    exact ⟨_, _, _, rfl, by omega, by omega, by omega, c2⟩
  · rw [if_neg e, and255]
    exact ⟨_, _, _, rfl, by omega, c0, c1, c2⟩
theorem l1Below_eq (b : List Int) (i h n : Int) (c : Cur b i) : ∃ x i' h', spec_l1Below.f b i h n = some (x, i', h') ∧ (0 ≤ x ∧ (0 < n → x < n) ∧ (n ≤ 0 → x = 0)) ∧ Cur b i' := by
  unfold spec_l1Below.f
  by_cases h0 : n ≤ 0
  · rw [if_pos h0]
    exact ⟨_, _, _, rfl, ⟨by omega, by omega, fun _ => rfl⟩, c⟩
  · rw [if_neg h0]
    obtain ⟨x1, i1, h1, e1, b1, c1⟩ := l1Byte_eq b i h c
    by_cases h2 : n ≤ 256
    · rw [if_pos h2, e1]
      simp only [Option.bind_some]
      rw [if_neg (by omega)]
      exact ⟨_, _, _, rfl, ⟨Int.tmod_nonneg _ (by omega), fun _ => Int.tmod_lt_of_pos _ (by omega), fun h => absurd h h0⟩, c1⟩
    · obtain ⟨x2, i2, h2', e2, b2, c2⟩ := l1Byte_eq b i1 h1 c1
      obtain ⟨x3, i3, h3', e3, b3, c3⟩ := l1Byte_eq b i2 h2' c2
      obtain ⟨x4, i4, h4', e4, b4, c4⟩ := l1Byte_eq b i3 h3' c3
      rw [if_neg h2, e1]
      simp only [Option.bind_some, e2, e3, e4]
      rw [if_neg (by omega), wrap_in (n := x1 * 16777216) (by omega) (by omega), wrap_in (n := x2 * 65536) (by omega) (by omega), wrap_in (n := x3 * 256) (by omega) (by omega), wrap_in (n := x1 * 16777216 + x2 * 65536) (by omega) (by omega), wrap_in (n := x1 * 16777216 + x2 * 65536 + x3 * 256) (by omega) (by omega), wrap_in (by omega) (by omega)]
      exact ⟨_, _, _, rfl, ⟨Int.tmod_nonneg _ (by omega), fun _ => Int.tmod_lt_of_pos _ (by omega), fun h => absurd h h0⟩, c4⟩
theorem l1New_ev (b : List Int) (hb : b.length ≤ 1048576) : ∃ h, Ev (fun k => spec_l1New.f k b) (b, 0, h) ∧ Cur b 0 := by
  have key : ∀ d j h, j + d = min b.length 4000 → ∃ h', Ev (fun k => spec_l1New.l0 k b h (j : Int)) (b, 0, h') := by
    intro d
    induction d with
    | zero =>
      intro j h hj
      refine ⟨h, Ev.one fun k => ?_⟩
      simp only [spec_l1New.l0]
      by_cases c : (j : Int) < (b.length : Int)
      · rw [if_pos c, if_neg (by omega)]
      · rw [if_neg c]
    | succ d ih =>
      intro j h hj
      obtain ⟨h', e⟩ := ih (j + 1) _ (by omega)
      exact ⟨h', Ev.step (fun k => by
        simp only [spec_l1New.l0]
        rw [if_pos (by omega), if_pos (by omega), if_pos (by omega), wrapS (n := b.length) (by omega) (by omega)]) e⟩
  obtain ⟨h', e⟩ := key _ 0 _ (Nat.zero_add _)
  exact ⟨h', e, by omega, by omega, by omega⟩
theorem l1Once_eq (b : List Int) (i h n : Int) (c : Cur b i) : ∃ (x : Bool) (i' h' : Int), spec_l1Once.f b i h n = some (x, i', h') ∧ Cur b i' := by
  obtain ⟨x, i', h', e, _, c'⟩ := l1Below_eq b i h n c
  exact ⟨_, _, _, by unfold spec_l1Once.f; rw [e]; rfl, c'⟩
theorem l1PickInt_eq (b : List Int) (i h : Int) (l : List Int) (hl : 0 < l.length) (c : Cur b i) : ∃ x i' h', spec_l1PickInt.f b i h l = some (x, i', h') ∧ x ∈ l ∧ Cur b i' := by
  obtain ⟨x, i', h', e, ⟨h0, h1, _⟩, c'⟩ := l1Below_eq b i h (l.length : Int) c
  have h1' := h1 (by omega)
  refine ⟨_, _, _, by unfold spec_l1PickInt.f; rw [e]; simp only [Option.bind_some]; rw [if_pos h0, if_pos h1'], ?_, c'⟩
  obtain ⟨j, rfl⟩ := Int.eq_ofNat_of_zero_le h0
  rw [rd_get (by omega)]
  exact List.getElem_mem _
def DE {α : Type} (g : Nat → Option α) (P : α → Prop) : Prop := ∃ r, Ev g r ∧ P r
theorem DE.bind {α β : Type} {g : Nat → Option α} {f : α → Nat → Option β} {P : α → Prop} {Q : β → Prop} (h : DE g P) (k : ∀ x, P x → DE (f x) Q) : DE (fun n => (g n).bind fun x => f x n) Q := by
  obtain ⟨r, e, p⟩ := h
  obtain ⟨r', e', q⟩ := k r p
  exact ⟨r', Ev.bind e e', q⟩
theorem DE.now {α : Type} {r : α} {Q : α → Prop} (h : Q r) : DE (fun _ => some r) Q := ⟨r, Ev.now _, h⟩
theorem DE.ite {α : Type} {c : Prop} [Decidable c] {g f : Nat → Option α} {Q : α → Prop} (h : c → DE g Q) (k : ¬ c → DE f Q) : DE (fun n => if c then g n else f n) Q := by
  by_cases e : c
  · simp only [if_pos e]; exact h e
  · simp only [if_neg e]; exact k e
theorem DE.step {α : Type} {g f : Nat → Option α} {Q : α → Prop} (e : ∀ k, g (k + 1) = f k) (h : DE f Q) : DE g Q := by
  obtain ⟨r, e', q⟩ := h
  exact ⟨r, Ev.step e e', q⟩
theorem DE.congr {α : Type} {g f : Nat → Option α} {Q : α → Prop} (e : ∀ k, g k = f k) (h : DE f Q) : DE g Q := by
  obtain ⟨r, e', q⟩ := h
  exact ⟨r, Ev.congr e e', q⟩
theorem DE.ev {α : Type} {g : Nat → Option α} {r : α} {Q : α → Prop} (e : Ev g r) (h : Q r) : DE g Q := ⟨r, e, h⟩
theorem l1Below_de (b : List Int) (i h n : Int) (c : Cur b i) : DE (fun _ => spec_l1Below.f b i h n) (fun r => Cur b r.2.1 ∧ 0 ≤ r.1 ∧ (0 < n → r.1 < n) ∧ (n ≤ 0 → r.1 = 0)) := by
  obtain ⟨x, i', h', e, ⟨p, q, s⟩, c'⟩ := l1Below_eq b i h n c
  exact ⟨_, Ev.all fun _ => e, c', p, q, s⟩
theorem l1New_de (b : List Int) (hb : b.length ≤ 1048576) : DE (fun k => spec_l1New.f k b) (fun r => r.1 = b ∧ Cur b r.2.1) := by
  obtain ⟨h, e, c⟩ := l1New_ev b hb
  exact ⟨_, e, rfl, c⟩
theorem l1Once_de (b : List Int) (i h n : Int) (c : Cur b i) : DE (fun _ => spec_l1Once.f b i h n) (fun r => Cur b r.2.1) := by
  obtain ⟨x, i', h', e, c'⟩ := l1Once_eq b i h n c
  exact ⟨_, Ev.all fun _ => e, c'⟩
theorem l1PickInt_de (b : List Int) (i h : Int) (l : List Int) (hl : 0 < l.length) (c : Cur b i) : DE (fun _ => spec_l1PickInt.f b i h l) (fun r => Cur b r.2.1 ∧ r.1 ∈ l) := by
  obtain ⟨x, i', h', e, m, c'⟩ := l1PickInt_eq b i h l hl c
  exact ⟨_, Ev.all fun _ => e, c', m⟩
theorem l7DrawStep_j1_de (x1 x6 x7 x8 x9 x24 : Int) (q : Bool) (b : List Int) (i h y0 y1 y2 y3 y4 : Int) (c : Cur b i) : DE (fun k => spec_l7DrawStep.j1 k x1 x6 x7 x8 x9 x24 q b i h y0 y1 y2 y3 y4) (fun r => Cur b r.2.2.2.2.2.1) := by
  refine DE.step (fun k => by rw [spec_l7DrawStep.j1]) ?_
  repeat' first
    | with_reducible refine DE.ite (fun _ => ?_) (fun _ => ?_)
    | (with_reducible refine DE.bind (l1Below_de _ _ _ _ (by assumption)) ?_; rintro ⟨_, _, _⟩ ⟨_, _, _, _⟩; (try dsimp only at *))
    | (with_reducible refine DE.bind (l1PickInt_de _ _ _ _ (by simp) (by assumption)) ?_; rintro ⟨_, _, _⟩ ⟨_, _⟩; (try dsimp only at *))
    | exact DE.now (by dsimp only; assumption)
theorem l7DrawStep_j0_de (x1 x6 x7 x8 x9 x24 : Int) (q : Bool) (b : List Int) (i h y0 y1 y2 y3 y4 : Int) (c : Cur b i) : DE (fun k => spec_l7DrawStep.j0 k x1 x6 x7 x8 x9 x24 q b i h y0 y1 y2 y3 y4) (fun r => Cur b r.2.2.2.2.2.1) := by
  refine DE.step (fun k => by rw [spec_l7DrawStep.j0]) ?_
  repeat' first
    | with_reducible exact l7DrawStep_j1_de _ _ _ _ _ _ _ _ _ _ _ _ _ _ _ (by assumption)
    | with_reducible refine DE.ite (fun _ => ?_) (fun _ => ?_)
    | (with_reducible refine DE.bind (l1PickInt_de _ _ _ _ (by simp) (by assumption)) ?_; rintro ⟨_, _, _⟩ ⟨_, _⟩; (try dsimp only at *))
    | exact DE.now (by dsimp only; assumption)
theorem l7DrawStep_de (b : List Int) (i h n : Int) (c : Cur b i) : DE (fun k => spec_l7DrawStep.f k b i h n) (fun r => Cur b r.2.2.2.2.2.1) := by
  simp only [spec_l7DrawStep.f]
  repeat' first
    | with_reducible exact l7DrawStep_j0_de _ _ _ _ _ _ _ _ _ _ _ _ _ _ _ (by assumption)
    | with_reducible refine DE.ite (fun _ => ?_) (fun _ => ?_)
    | (with_reducible refine DE.bind (l1Below_de _ _ _ _ (by assumption)) ?_; rintro ⟨_, _, _⟩ ⟨_, _, _, _⟩; (try dsimp only at *))
    | (with_reducible refine DE.bind (l1PickInt_de _ _ _ _ (by simp) (by assumption)) ?_; rintro ⟨_, _, _⟩ ⟨_, _⟩; (try dsimp only at *))
    | exact DE.now (by dsimp only; assumption)
theorem l7Spoil_de (b : List Int) (i h y0 y1 y2 y3 y4 : Int) (c : Cur b i) : DE (fun _ => spec_l7Spoil.f b i h y0 y1 y2 y3 y4) (fun r => Cur b r.2.2.2.2.2.1) := by
  simp only [spec_l7Spoil.f]
  repeat' first
    | with_reducible refine DE.ite (fun _ => ?_) (fun _ => ?_)
    | (with_reducible refine DE.bind (l1Below_de _ _ _ _ (by assumption)) ?_; rintro ⟨_, _, _⟩ ⟨_, _, _, _⟩; (try dsimp only at *))
    | (with_reducible refine DE.bind (l1PickInt_de _ _ _ _ (by simp) (by assumption)) ?_; rintro ⟨_, _, _⟩ ⟨_, _⟩; (try dsimp only at *))
    | exact DE.now (by dsimp only; assumption)
theorem drawStepOk_de (code : List Int) (hc : code.length ≤ 1048576) : DE (fun k => spec_DrawStepOk.f k code) (fun _ => True) := by
  simp only [spec_DrawStepOk.f]
  refine DE.bind (l1New_de code hc) ?_
  rintro ⟨b, i, h⟩ ⟨e, c⟩
  dsimp only at *
  subst e
  refine DE.bind (l7DrawStep_de _ _ _ _ c) ?_
  rintro ⟨_, _, _, _, _, _, _⟩ c1
  dsimp only at *
  refine DE.bind (l1Once_de _ _ _ _ c1) ?_
  rintro ⟨_, _, _⟩ c2
  dsimp only at *
  refine DE.ite (fun _ => ?_) (fun _ => DE.now trivial)
  refine DE.bind (l7Spoil_de _ _ _ _ _ _ _ _ c2) ?_
  rintro ⟨_, _, _, _, _, _, _⟩ c3
  exact DE.now trivial
def inn (a lo hi : Int) : Bool := decide (lo ≤ a ∧ a ≤ hi)
theorem spec_l1In_eq (a lo hi : Int) : spec_l1In.f a lo hi = some (inn a lo hi) := by
  unfold spec_l1In.f inn
  by_cases h : a ≥ lo
  · rw [if_pos h]; congr 1; simp; omega
  · rw [if_neg h, decide_eq_false (by omega)]
theorem impl_within_eq (a lo hi : Int) : impl_within.f a lo hi = some (inn a lo hi) := by
  unfold impl_within.f inn
  by_cases h : a ≥ lo
  · rw [if_pos h]; congr 1; simp; omega
  · rw [if_neg h, decide_eq_false (by omega)]
def StepR (op r a b n p : Int) : Prop :=
  (0 ≤ r ∧ r ≤ 7) ∧ (0 ≤ b ∧ b ≤ 7) ∧ ((0 ≤ a ∧ a ≤ 7) ∨ (a = -1 ∧ (op = 5 ∨ op = 6 ∨ op = 7))) ∧
  ((op = 1 ∧ (-1000000000 ≤ n ∧ n ≤ 1000000000) ∧ a = 0 ∧ b = 0) ∨ ((op = 2 ∨ op = 3 ∨ op = 4) ∧ n = 0) ∨ (op = 5 ∧ (0 ≤ n ∧ n ≤ 23) ∧ b = 0) ∨
   ((op = 6 ∨ op = 7) ∧ (0 ≤ n ∧ n ≤ 23) ∧ r = 0) ∨ (op = 8 ∧ (0 ≤ n ∧ n ≤ 23) ∧ a = 0) ∨ (op = 9 ∧ r = 0 ∧ b = 0 ∧ n = 0) ∨
   (op = 10 ∧ (0 ≤ n ∧ n < p) ∧ r = 0 ∧ a = 0 ∧ b = 0) ∨ (op = 11 ∧ (0 ≤ n ∧ n < p) ∧ r = 0 ∧ b = 0) ∨ ((op = 12 ∨ op = 13) ∧ r = 0 ∧ a = 0 ∧ b = 0 ∧ n = 0))
instance (op r a b n p : Int) : Decidable (StepR op r a b n p) := by unfold StepR; infer_instance
def stepOk (op r a b n p : Int) : Bool := decide (StepR op r a b n p)
theorem op_cases (op : Int) : op = 1 ∨ op = 2 ∨ op = 3 ∨ op = 4 ∨ op = 5 ∨ op = 6 ∨ op = 7 ∨ op = 8 ∨ op = 9 ∨ op = 10 ∨ op = 11 ∨ op = 12 ∨ op = 13 ∨ (op < 1 ∨ 13 < op) := by omega
theorem spec_l7Reg_eq (a : Int) : spec_l7Reg.f a = some (inn a 0 7) := by simp [spec_l7Reg.f, spec_l1In_eq]
theorem spec_StepOk_ev (op r a b n p : Int) : Ev (fun k => spec_StepOk.f k op r a b n p) (stepOk op r a b n p) := by
  refine ⟨5, fun k hk => ?_⟩
  obtain ⟨m, rfl⟩ : ∃ m, k = m + 5 := ⟨k - 5, by omega⟩
  simp only [spec_StepOk.f, spec_StepOk.j0, spec_StepOk.j1, spec_StepOk.j2, spec_StepOk.j3, spec_StepOk.j4, spec_l7Reg_eq, spec_l1In_eq, Option.bind_some, inn, stepOk, decide_eq_true_eq]
  rcases op_cases op with rfl | rfl | rfl | rfl | rfl | rfl | rfl | rfl | rfl | rfl | rfl | rfl | rfl | h
  case inr.inr.inr.inr.inr.inr.inr.inr.inr.inr.inr.inr.inr =>
    have h' : ¬ StepR op r a b n p := by unfold StepR; omega
    simp only [if_neg (show ¬ op = 1 by omega), if_neg (show ¬ op = 2 by omega), if_neg (show ¬ op = 3 by omega), if_neg (show ¬ op = 4 by omega), if_neg (show ¬ op = 5 by omega), if_neg (show ¬ op = 6 by omega), if_neg (show ¬ op = 7 by omega), if_neg (show ¬ op = 8 by omega), if_neg (show ¬ op = 9 by omega), if_neg (show ¬ op = 10 by omega), if_neg (show ¬ op = 11 by omega), if_neg (show ¬ op = 12 by omega), if_neg (show ¬ op = 13 by omega), decide_eq_false h']
    have h4 : (op == 4) = false := by simpa using (show ¬ op = 4 by omega)
    have h7 : (op == 7) = false := by simpa using (show ¬ op = 7 by omega)
    simp only [h4, h7, Bool.false_eq_true, if_false]
    repeat' split
    all_goals rfl
  all_goals
    simp only [StepR]
    simp
    repeat' split
    all_goals first
      | (congr 1; rw [Bool.eq_iff_iff]; simp; omega)
      | (simp; omega)
theorem impl_isCell_eq (a : Int) : impl_isCell.f a = some (inn a 0 23) := by simp [impl_isCell.f, impl_within_eq]
theorem impl_StepOk_ev (op r a b n p : Int) : Ev (fun k => impl_StepOk.f k op r a b n p) (stepOk op r a b n p) := by
  refine ⟨8, fun k hk => ?_⟩
  obtain ⟨m, rfl⟩ : ∃ m, k = m + 8 := ⟨k - 8, by omega⟩
  simp only [impl_StepOk.f, impl_StepOk.j0, impl_StepOk.j1, impl_StepOk.j2, impl_stepNamed.f, impl_stepNamed.j0, impl_stepNamed.j1, impl_isCell_eq, impl_within_eq, Option.bind_some, inn, stepOk, decide_eq_true_eq]
  rcases op_cases op with rfl | rfl | rfl | rfl | rfl | rfl | rfl | rfl | rfl | rfl | rfl | rfl | rfl | h
  case inr.inr.inr.inr.inr.inr.inr.inr.inr.inr.inr.inr.inr =>
    have h' : ¬ StepR op r a b n p := by unfold StepR; omega
    rw [if_neg (by omega), if_neg (by omega), decide_eq_false h', if_pos trivial]
  all_goals
    simp only [StepR]
    simp
    repeat' split
    all_goals first
      | (congr 1; rw [Bool.eq_iff_iff]; simp; omega)
      | (simp; omega)
def wordOf (op r a b n : Int) : Int × Bool := if stepOk op r a b n 800 = true then (op + 16 * r + 256 * (a + 1) + 4096 * b + 65536 * (n + 1000000000), true) else (0, false)
theorem word_wraps {op r a b n : Int} (h : stepOk op r a b n 800 = true) : wrap64 (wrap64 (wrap64 (wrap64 (op + wrap64 (16 * r)) + wrap64 (256 * wrap64 (a + 1))) + wrap64 (4096 * b)) + wrap64 (65536 * wrap64 (n + 1000000000))) = op + 16 * r + 256 * (a + 1) + 4096 * b + 65536 * (n + 1000000000) := by
  have h1 : StepR op r a b n 800 := by simpa [stepOk] using h
  have hop : 1 ≤ op ∧ op ≤ 13 := by unfold StepR at h1; omega
  have hr : 0 ≤ r ∧ r ≤ 7 := h1.1
  have hb : 0 ≤ b ∧ b ≤ 7 := h1.2.1
  have ha : -1 ≤ a ∧ a ≤ 7 := by have := h1.2.2.1; omega
  have hn : -1000000000 ≤ n ∧ n ≤ 1000000000 := by unfold StepR at h1; omega
  rw [wrap_in (n := 16 * r) (by omega) (by omega), wrap_in (n := a + 1) (by omega) (by omega), wrap_in (n := 256 * (a + 1)) (by omega) (by omega), wrap_in (n := 4096 * b) (by omega) (by omega), wrap_in (n := n + 1000000000) (by omega) (by omega), wrap_in (n := 65536 * (n + 1000000000)) (by omega) (by omega),
    wrap_in (n := op + 16 * r) (by omega) (by omega), wrap_in (n := op + 16 * r + 256 * (a + 1)) (by omega) (by omega), wrap_in (n := op + 16 * r + 256 * (a + 1) + 4096 * b) (by omega) (by omega), wrap_in (by omega) (by omega)]
theorem spec_StepWord_ev (op r a b n : Int) : Ev (fun k => spec_StepWord.f k op r a b n) (wordOf op r a b n) := by
  simp only [spec_StepWord.f]
  refine Ev.bind (spec_StepOk_ev ..) ?_
  by_cases h : stepOk op r a b n 800 = true
  · simp only [h, if_true, word_wraps h, wordOf]
    exact Ev.now _
  · simp only [h, if_false, wordOf]
    exact Ev.now _
theorem impl_StepWord_ev (op r a b n : Int) : Ev (fun k => impl_StepWord.f k op r a b n) (wordOf op r a b n) := by
  simp only [impl_StepWord.f]
  refine Ev.bind (impl_StepOk_ev ..) ?_
  by_cases h : stepOk op r a b n 800 = true
  · simp only [h, if_true, word_wraps h, wordOf]
    exact Ev.now _
  · simp only [h, if_false, wordOf]
    exact Ev.now _
def wA (w : Int) : Int := Int.tmod w 16
def wB (w : Int) : Int := Int.tmod (wrap64 (Int.tdiv w 16)) 16
def wC (w : Int) : Int := wrap64 (Int.tmod (wrap64 (Int.tdiv w 256)) 16 - 1)
def wD (w : Int) : Int := Int.tmod (wrap64 (Int.tdiv w 4096)) 16
def wE (w : Int) : Int := wrap64 (wrap64 (Int.tdiv w 65536) - 1000000000)
def wordStep (w : Int) : Int × Int × Int × Int × Int × Bool :=
  if w < 0 then (0, 0, 0, 0, 0, false) else if (wordOf (wA w) (wB w) (wC w) (wD w) (wE w)).2 = true then (if (wordOf (wA w) (wB w) (wC w) (wD w) (wE w)).1 = w then (wA w, wB w, wC w, wD w, wE w, true) else (0, 0, 0, 0, 0, false)) else (0, 0, 0, 0, 0, false)
theorem spec_WordStep_ev (w : Int) : Ev (fun k => spec_WordStep.f k w) (wordStep w) := by
  simp only [spec_WordStep.f, wordStep]
  by_cases h : w < 0
  · simp only [if_pos h]
    exact Ev.now _
  · simp only [if_neg h]
    refine Ev.bind (spec_StepWord_ev (wA w) (wB w) (wC w) (wD w) (wE w)) ?_
    by_cases h1 : (wordOf (wA w) (wB w) (wC w) (wD w) (wE w)).2 = true
    · by_cases h2 : (wordOf (wA w) (wB w) (wC w) (wD w) (wE w)).1 = w
      · simp only [if_pos h1, if_pos h2]
        exact Ev.now _
      · simp only [if_pos h1, if_neg h2]
        exact Ev.now _
    · simp only [if_neg h1]
      exact Ev.now _
theorem impl_WordStep_ev (w : Int) : Ev (fun k => impl_WordStep.f k w) (wordStep w) := by
  simp only [impl_WordStep.f, wordStep]
  by_cases h : w < 0
  · simp only [if_pos h]
    exact Ev.now _
  · simp only [if_neg h]
    refine Ev.bind (impl_StepWord_ev (wA w) (wB w) (wC w) (wD w) (wE w)) ?_
    by_cases h1 : (wordOf (wA w) (wB w) (wC w) (wD w) (wE w)).2 = true
    · by_cases h2 : (wordOf (wA w) (wB w) (wC w) (wD w) (wE w)).1 = w
      · simp only [if_pos h1, if_pos h2]
        exact Ev.now _
      · simp only [if_pos h1, if_neg h2]
        exact Ev.now _
    · simp only [if_neg h1]
      exact Ev.now _
theorem wordStep_word {op r a b n : Int} (h : stepOk op r a b n 800 = true) : wordStep (wordOf op r a b n).1 = (op, r, a, b, n, true) := by
  have h1 : StepR op r a b n 800 := by simpa [stepOk] using h
  have hop : 1 ≤ op ∧ op ≤ 13 := by unfold StepR at h1; omega
  have hr : 0 ≤ r ∧ r ≤ 7 := h1.1
  have hb : 0 ≤ b ∧ b ≤ 7 := h1.2.1
  have ha : -1 ≤ a ∧ a ≤ 7 := by have := h1.2.2.1; omega
  have hn : -1000000000 ≤ n ∧ n ≤ 1000000000 := by unfold StepR at h1; omega
  have hw : wordOf op r a b n = (op + 16 * r + 256 * (a + 1) + 4096 * b + 65536 * (n + 1000000000), true) := if_pos h
  rw [hw]
  dsimp only
  generalize hW : op + 16 * r + 256 * (a + 1) + 4096 * b + 65536 * (n + 1000000000) = W at hw ⊢
  have w0 : 0 ≤ W := by omega
  have e1 : wA W = op := by
    unfold wA
    rw [Int.tmod_eq_emod_of_nonneg w0]
    omega
  have e2 : wB W = r := by
    unfold wB
    rw [Int.tdiv_eq_ediv_of_nonneg w0, wrap_in (by omega) (by omega), Int.tmod_eq_emod_of_nonneg (by omega)]
    omega
  have e3 : wC W = a := by
    unfold wC
    rw [Int.tdiv_eq_ediv_of_nonneg w0, wrap_in (n := W / 256) (by omega) (by omega), Int.tmod_eq_emod_of_nonneg (by omega), wrap_in (by omega) (by omega)]
    omega
  have e4 : wD W = b := by
    unfold wD
    rw [Int.tdiv_eq_ediv_of_nonneg w0, wrap_in (by omega) (by omega), Int.tmod_eq_emod_of_nonneg (by omega)]
    omega
  have e5 : wE W = n := by
    unfold wE
    rw [Int.tdiv_eq_ediv_of_nonneg w0, wrap_in (n := W / 65536) (by omega) (by omega), wrap_in (by omega) (by omega)]
    omega
  unfold wordStep
  rw [e1, e2, e3, e4, e5, hw, if_neg (by omega), if_pos rfl, if_pos rfl]
theorem wordStep_back (w : Int) : wordStep w = (0, 0, 0, 0, 0, false) ∨ ∃ op r a b n, wordStep w = (op, r, a, b, n, true) ∧ wordOf op r a b n = (w, true) := by
  unfold wordStep
  by_cases h : w < 0
  · exact .inl (if_pos h)
  by_cases h1 : (wordOf (wA w) (wB w) (wC w) (wD w) (wE w)).2 = true
  · by_cases h2 : (wordOf (wA w) (wB w) (wC w) (wD w) (wE w)).1 = w
    · refine .inr ⟨wA w, wB w, wC w, wD w, wE w, by rw [if_neg h, if_pos h1, if_pos h2], Prod.ext h2 h1⟩
    · exact .inl (by rw [if_neg h, if_pos h1, if_neg h2])
  · exact .inl (by rw [if_neg h, if_neg h1])
theorem drawWordStep_de (code : List Int) (hc : code.length ≤ 1048576) : DE (fun k => spec_DrawWordStep.f k code) (fun _ => True) := by
  simp only [spec_DrawWordStep.f]
  refine DE.bind (l1New_de code hc) ?_
  rintro ⟨b, i, h⟩ ⟨e, c⟩
  dsimp only at *
  subst e
  refine DE.bind (l7DrawStep_de _ _ _ _ c) ?_
  rintro ⟨_, _, _, _, _, _, _⟩ c1
  dsimp only at *
  refine DE.bind (DE.ev (Q := fun _ => True) (spec_StepWord_ev ..) trivial) ?_
  rintro w _
  refine DE.bind (l1Below_de _ _ _ _ c1) ?_
  rintro ⟨_, _, _⟩ ⟨c2, _, _, _⟩
  dsimp only at *
  refine DE.ite (fun _ => ?_) (fun _ => DE.ite (fun _ => ?_) (fun _ => DE.now trivial))
  · refine DE.bind (l1PickInt_de _ _ _ _ (by simp) c2) ?_
    rintro ⟨_, _, _⟩ _
    exact DE.now trivial
  · refine DE.bind (l1PickInt_de _ _ _ _ (by simp) c2) ?_
    rintro ⟨_, _, _⟩ _
    exact DE.now trivial
theorem fnWords_j1 (code : List Int) (hc : code.length ≤ 1048576) : Ev (fun k => laws_FnWords.j1 k code) true := by
  obtain ⟨x, e, _⟩ := drawWordStep_de code hc
  refine Ev.step (fun k => by rw [laws_FnWords.j1]) ?_
  refine Ev.bind e ?_
  refine Ev.bind (impl_WordStep_ev x) ?_
  refine Ev.bind (spec_WordStep_ev x) ?_
  refine Ev.ite_neg (by simp) ?_
  refine Ev.bind (impl_StepWord_ev ..) ?_
  rcases wordStep_back x with h | ⟨op, r, a, b, n, h, hw⟩
  · rw [h]
    refine Ev.ite_neg (by simp) ?_
    exact Ev.ite_pos (by simp) (Ev.now _)
  · rw [h]
    dsimp only
    rw [hw]
    refine Ev.ite_pos rfl ?_
    refine Ev.ite_pos rfl ?_
    dsimp only
    rw [beq_self_eq_true]
    exact Ev.now _
theorem FnWords (x0 : (List Int)) (ok0 : (x0.length ≤ maxLen ∧ ∀ z ∈ x0, ((Lit.int .u8 z).wf = true))) : ∃ k, laws_FnWords.f k x0 = some true := by
  have hl := ok0.1
  unfold maxLen at hl
  refine Ev.rounds (g := fun k => laws_FnWords.f k x0) ?_
  simp only [laws_FnWords.f, laws_big.f, Option.bind_some, decide_eq_true_eq]
  by_cases hb : (x0.length : Int) > 1048576
  · exact Ev.ite_pos hb (Ev.now _)
  refine Ev.ite_neg hb ?_
  obtain ⟨⟨op, r, a, b, n, p⟩, e, _⟩ := drawStepOk_de x0 (by omega)
  have e' : Ev (fun k => spec_DrawStepWord.f k x0) (op, r, a, b, n) := by
    simp only [spec_DrawStepWord.f]
    exact Ev.bind e (Ev.now _)
  refine Ev.bind e' ?_
  dsimp only
  refine Ev.bind (impl_StepWord_ev ..) ?_
  refine Ev.bind (spec_StepWord_ev ..) ?_
  refine Ev.ite_neg (by simp) ?_
  refine Ev.step (fun k => by rw [laws_FnWords.j0]) ?_
  refine Ev.ite_neg (by simp) ?_
  by_cases h : stepOk op r a b n 800 = true
  · refine Ev.ite_pos (by rw [wordOf, if_pos h]) ?_
    refine Ev.bind (impl_WordStep_ev _) ?_
    rw [wordStep_word h]
    refine Ev.ite_pos rfl ?_
    refine Ev.ite_neg (by simp) ?_
    exact fnWords_j1 x0 (by omega)
  · refine Ev.ite_neg (by rw [wordOf, if_neg h]; simp) ?_
    exact fnWords_j1 x0 (by omega)
end Go.Proofs.Ytpefeaiglkkkoab.Pure
namespace Go.Proofs.Ytpefeaiglkkkoab.Rd
open Go.RowKit Go.Proofs.YtpefeaiglkkkoabW.PrintWords Go.ChangeShapes Go.WideShapes
set_option linter.unusedVariables false
def Opens {α : Type} (P : Program) (t : TypeId) (d : Kd α) (ok : α → Prop) : Prop :=
  ∀ (H : Type) (enc : TypeId × Value → H) (w : World) (base : Nat) (spare : Nat → Bool) (held : Bool) (fuel : Nat) (cs : List Value) (x : DataW H × List MemPlace),
    DataW.trod enc P w base spare held fuel t cs = some x → ∃ y, d.K w y cs ∧ ok y
theorem Opens.int {P : Program} {t : TypeId} {k : IntKind} (ht : P.underlying t = some (.int k)) : Opens P t (Kd.int k) (fun n => (Lit.int k n).wf = true) := by
  intro H enc w base spare held fuel cs x h
  obtain ⟨n, rfl, _, hw⟩ := DataW.trod_int ht h
  exact ⟨n, rfl, hw⟩
theorem Opens.bool {P : Program} {t : TypeId} (ht : P.underlying t = some .bool) : Opens P t Kd.bool (fun _ => True) := by
  intro H enc w base spare held fuel cs x h
  obtain ⟨n, rfl, _⟩ := DataW.trod_bool ht h
  exact ⟨n, rfl, trivial⟩
theorem list_of {α : Type} {Q : Nat → α → Prop} : ∀ n : Nat, (∀ i, i < n → ∃ y, Q i y) → ∃ ys : List α, ys.length = n ∧ ∀ i y, ys[i]? = some y → Q i y := by
  intro n
  induction n with
  | zero => exact fun _ => ⟨[], rfl, fun i y h => by simp at h⟩
  | succ n ih =>
    intro h
    obtain ⟨ys, hl, hq⟩ := ih (fun i hi => h i (by omega))
    obtain ⟨y, hy⟩ := h n (by omega)
    refine ⟨ys ++ [y], by simp [hl], fun i z hz => ?_⟩
    rcases Nat.lt_or_ge i ys.length with hi | hi
    · rw [List.getElem?_append_left hi] at hz
      exact hq i z hz
    · rw [List.getElem?_append_right hi] at hz
      have h0 : i - ys.length = 0 := by
        have := (List.getElem?_eq_some_iff.1 hz).1
        simp at this
        omega
      rw [h0] at hz
      simp at hz
      subst hz
      have : i = n := by omega
      rw [this]
      exact hy
theorem Opens.slice {α : Type} {P : Program} {t e : TypeId} (q : Nat) {d : Kd α} {ok : α → Prop} (ht : P.underlying t = some (.slice e)) (hs : P.cellsOf e = d.sz) (he : Opens P e d ok) :
    Opens P t (Kd.slice q d) (fun xs => xs.length ≤ maxLen ∧ ∀ x ∈ xs, ok x) := by
  intro H enc w base spare held fuel cs x h
  rcases DataW.trod_slice ht h with ⟨rfl, _⟩ | ⟨a, len, cap, elems, rest, n, _, rfl, _, _, hl, hm, hlen, hel, _, _⟩
  · exact ⟨[], ⟨none, 0, rfl, Nat.le_refl _, rfl, by simp, fun hp => absurd hp (by simp)⟩, by simp, by simp⟩
  · have each : ∀ i, i < len → ∃ y, ∃ c, w.cells? base (a.add (i * d.sz)) d.sz = some c ∧ d.K w y c ∧ ok y := by
      intro i hi
      have h1 := hel i hi
      rw [List.getElem?_eq_getElem (by omega), Option.bind_eq_some_iff, hs] at h1
      obtain ⟨c, hc, hx⟩ := h1
      obtain ⟨y, hy, ho⟩ := he H enc w base spare held n c _ hx
      exact ⟨y, c, hc, hy, ho⟩
    obtain ⟨ys, hyl, hq⟩ := list_of len each
    have hm' : len ≤ 9223372036854775807 := by unfold maxLen at hm; omega
    refine ⟨ys, ⟨some a, cap, by rw [hyl], by omega, rfl, by omega, fun _ => ⟨a, rfl, fun j p hj => ?_⟩⟩, by omega, fun y hy => ?_⟩
    · obtain ⟨c, hc, hk, _⟩ := hq j p hj
      obtain ⟨_, hcl, hcell⟩ := World.cells?_some hc
      refine ⟨c, hcl, hk, fun i u hu => ?_⟩
      have hi : i < d.sz := by
        have := (List.getElem?_eq_some_iff.1 hu).1
        omega
      rw [← Addr.add_add, hcell i hi, hu]
    · obtain ⟨i, hi⟩ := List.getElem?_of_mem hy
      obtain ⟨c, _, _, ho⟩ := hq i y hi
      exact ho
def OpensAt {α : Type} (P : Program) (fs : List Field) (off : Nat) (d : Kd α) (ok : α → Prop) : Prop :=
  ∀ (H : Type) (enc : TypeId × Value → H) (w : World) (base : Nat) (spare : Nat → Bool) (held : Bool) (n : Nat) (cs : List Value), cs.length = off + d.sz →
    (∀ f ∈ fs, ∃ y, DataW.trod enc P w base spare held n f.type ((cs.drop f.offset).take (P.cellsOf f.type)) = some y) → ∃ y, d.K w y (cs.drop off) ∧ ok y
theorem OpensAt.one {α : Type} {P : Program} {f : Field} {off : Nat} {d : Kd α} {ok : α → Prop} (ho : f.offset = off) (hs : P.cellsOf f.type = d.sz) (h : Opens P f.type d ok) : OpensAt P [f] off d ok := by
  intro H enc w base spare held n cs hl hf
  obtain ⟨x, hx⟩ := hf f (by simp)
  rw [ho, hs, List.take_of_length_le (by simp; omega)] at hx
  exact h _ _ _ _ _ _ _ _ _ hx
theorem OpensAt.cons {α β : Type} {P : Program} {f : Field} {fs : List Field} {off : Nat} {a : Kd α} {b : Kd β} {oka : α → Prop} {okb : β → Prop} (ho : f.offset = off) (hs : P.cellsOf f.type = a.sz) (h : Opens P f.type a oka)
    (hr : OpensAt P fs (off + a.sz) b okb) : OpensAt P (f :: fs) off (Kd.pair a b) (fun x => oka x.1 ∧ okb x.2) := by
  intro H enc w base spare held n cs hl hf
  obtain ⟨x, hx⟩ := hf f (by simp)
  rw [ho, hs] at hx
  obtain ⟨y, hy, oy⟩ := h _ _ _ _ _ _ _ _ _ hx
  have hl' : cs.length = (off + a.sz) + b.sz := by rw [hl]; show off + (a.sz + b.sz) = _; omega
  obtain ⟨z, hz, oz⟩ := hr H enc w base spare held n cs hl' (fun g hg => hf g (by simp [hg]))
  refine ⟨(y, z), ⟨_, _, ?_, hy, hz⟩, oy, oz⟩
  rw [← List.drop_drop]
  exact (List.take_append_drop _ _).symm
theorem Opens.struct {α : Type} {P : Program} {t : TypeId} {fs : List Field} {d : Kd α} {ok : α → Prop} (ht : P.underlying t = some (.struct (List.toArray fs))) (hs : P.cellsOf t = d.sz) (h : OpensAt P fs 0 d ok) : Opens P t d ok := by
  intro H enc w base spare held fuel cs x hx
  obtain ⟨xs, n, _, _, hl, hlen, hf⟩ := DataW.trod_struct ht hx
  obtain ⟨y, hy, oy⟩ := h H enc w base spare held n cs (by omega) (fun f hm => by
    obtain ⟨i, hi⟩ := List.getElem?_of_mem hm
    have hi' : (List.toArray fs)[i]? = some f := by simpa using hi
    have h1 := hf i f hi'
    have hlt : i < xs.length := by
      have := (Array.getElem?_eq_some_iff.1 hi').1
      omega
    rw [List.getElem?_eq_getElem hlt] at h1
    exact ⟨_, h1⟩)
  exact ⟨y, by simpa using hy, oy⟩
theorem Opens.at_slice {α : Type} {P : Program} {t : TypeId} {q : Nat} {d : Kd α} {ok : List α → Prop} (h : Opens P t (Kd.slice q d) ok) {H : Type} {enc : TypeId × Value → H} {w : World} {base : Nat} {spare : Nat → Bool} {held : Bool} {v : Value} {x : DataW H} {ps : List MemPlace}
    {e : TypeId} {r : Reach} {b0 : Nat} (hu : P.underlying t = some (.slice e)) (hv : Value.okWide P w r b0 t v) (hx : DataW.Trod enc P w base spare held t v x ps) : ∃ xs A c, v = .slice A xs.length c ∧ xs.length ≤ c ∧ d.C w A xs.length xs ∧ ok xs := by
  obtain ⟨a, len, cap, rfl⟩ := okWide_slice hu hv
  obtain ⟨fuel, hf⟩ := hx
  obtain ⟨xs, ⟨A, c, hcs, hl, hC⟩, o⟩ := h _ _ _ _ _ _ _ _ _ hf
  refine ⟨xs, A, c, ?_, hl, hC, o⟩
  simpa [Value.cells] using hcs
end Go.Proofs.Ytpefeaiglkkkoab.Rd
