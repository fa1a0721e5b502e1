/- A part of the proof that the law FnTexts holds for every input: the words, functions and walks that its row needs, without a condition of their own. -/
import Derived.ProofKit
import Derived.DataElems
import Derived.ChangeArms
import Derived.SizedLaws
import Derived.Test.YtdbobicbbfmepaaDoorRows
import Derived.LaidMore
import Derived.OpenShut
import Derived.Stop.Joined
import Derived.Test.YtdbobicbbfmepaaDoorZFnTextsa1
import Derived.Test.YtdbobicbbfmepaaDoorZFnTextsa2
import Derived.Test.YtdbobicbbfmepaaDoorZFnTextsa18
namespace Go.Proofs.YtdbobicbbfmepaaDoor.Pure
open Go.RowKit Go.Proofs.YtdbobicbbfmepaaDoor.PFnTexts Go.Proofs.YtdbobicbbfmepaaDoorW.PrintWords Go.Proofs.YtdbobicbbfmepaaDoorW.PrintLast Go.Proofs.YtdbobicbbfmepaaDoor.Lp
set_option linter.unusedVariables false
set_option linter.unusedSimpArgs false
theorem and255 (n : Int) : Go.bits .and .i64 n 255 = n % 256 := by
  have h : (BitVec.ofInt 64 255).toNat = 2 ^ 8 - 1 := by decide
  have key : (BitVec.ofInt 64 n &&& BitVec.ofInt 64 255).toNat = (n % ((2 ^ 64 : Nat) : Int)).toNat % 2 ^ 8 := by
    rw [BitVec.toNat_and, BitVec.toNat_ofInt, h, Nat.and_two_pow_sub_one_eq_mod]
  show IntKind.i64.wrap ((BitVec.ofInt 64 n &&& BitVec.ofInt 64 255).toNat : Nat) = n % 256
  rw [key, IntKind.wrap_i64]
  omega
def Cur (b : List Int) (i : Int) : Prop := 0 ≤ i ∧ i ≤ (b.length : Int) ∧ (b.length : Int) ≤ 1048576
theorem l1Byte_eq (b : List Int) (i h : Int) (c : Cur b i) : ∃ x i' h', spec_l1Byte.f b i h = some (x, i', h') ∧ (0 ≤ x ∧ x ≤ 255) ∧ Cur b i' := by
  obtain ⟨c0, c1, c2⟩ := c
  unfold spec_l1Byte.f
  by_cases e : i < (b.length : Int)
  · rw [if_pos e, if_pos c0, and255, wrap_in (n := i + 1) (by omega) (by omega)]
    exact ⟨_, _, _, rfl, by omega, by omega, by omega, c2⟩
  · rw [if_neg e, and255]
    exact ⟨_, _, _, rfl, by omega, c0, c1, c2⟩
theorem l1Below_eq (b : List Int) (i h n : Int) (c : Cur b i) : ∃ x i' h', spec_l1Below.f b i h n = some (x, i', h') ∧ (0 ≤ x ∧ (0 < n → x < n) ∧ (n ≤ 0 → x = 0)) ∧ Cur b i' := by
  unfold spec_l1Below.f
  by_cases h0 : n ≤ 0
  · rw [if_pos h0]
    exact ⟨_, _, _, rfl, ⟨by omega, by omega, fun _ => rfl⟩, c⟩
  · rw [if_neg h0]
    obtain ⟨x1, i1, h1, e1, b1, c1⟩ := l1Byte_eq b i h c
    by_cases h2 : n ≤ 256
    · rw [if_pos h2, e1]
      simp only [Option.bind_some]
      rw [if_neg (by omega)]
      exact ⟨_, _, _, rfl, ⟨Int.tmod_nonneg _ (by omega), fun _ => Int.tmod_lt_of_pos _ (by omega), fun h => absurd h h0⟩, c1⟩
    · obtain ⟨x2, i2, h2', e2, b2, c2⟩ := l1Byte_eq b i1 h1 c1
      obtain ⟨x3, i3, h3', e3, b3, c3⟩ := l1Byte_eq b i2 h2' c2
      obtain ⟨x4, i4, h4', e4, b4, c4⟩ := l1Byte_eq b i3 h3' c3
      rw [if_neg h2, e1]
      simp only [Option.bind_some, e2, e3, e4]
      rw [if_neg (by omega), wrap_in (n := x1 * 16777216) (by omega) (by omega), wrap_in (n := x2 * 65536) (by omega) (by omega), wrap_in (n := x3 * 256) (by omega) (by omega), wrap_in (n := x1 * 16777216 + x2 * 65536) (by omega) (by omega), wrap_in (n := x1 * 16777216 + x2 * 65536 + x3 * 256) (by omega) (by omega), wrap_in (by omega) (by omega)]
      exact ⟨_, _, _, rfl, ⟨Int.tmod_nonneg _ (by omega), fun _ => Int.tmod_lt_of_pos _ (by omega), fun h => absurd h h0⟩, c4⟩
theorem l1New_ev (b : List Int) (hb : b.length ≤ 1048576) : ∃ h, Ev (fun k => spec_l1New.f k b) (b, 0, h) ∧ Cur b 0 := by
  have key : ∀ d j h, j + d = min b.length 4000 → ∃ h', Ev (fun k => spec_l1New.l0 k b h (j : Int)) (b, 0, h') := by
    intro d
    induction d with
    | zero =>
      intro j h hj
      refine ⟨h, Ev.one fun k => ?_⟩
      simp only [spec_l1New.l0]
      by_cases c : (j : Int) < (b.length : Int)
      · rw [if_pos c, if_neg (by omega)]
      · rw [if_neg c]
    | succ d ih =>
      intro j h hj
      obtain ⟨h', e⟩ := ih (j + 1) _ (by omega)
      exact ⟨h', Ev.step (fun k => by
        simp only [spec_l1New.l0]
        rw [if_pos (by omega), if_pos (by omega), if_pos (by omega), wrapS (n := b.length) (by omega) (by omega)]) e⟩
  obtain ⟨h', e⟩ := key _ 0 _ (Nat.zero_add _)
  exact ⟨h', e, by omega, by omega, by omega⟩
theorem l1Once_eq (b : List Int) (i h n : Int) (c : Cur b i) : ∃ (x : Bool) (i' h' : Int), spec_l1Once.f b i h n = some (x, i', h') ∧ Cur b i' := by
  obtain ⟨x, i', h', e, _, c'⟩ := l1Below_eq b i h n c
  exact ⟨_, _, _, by unfold spec_l1Once.f; rw [e]; rfl, c'⟩
theorem l1PickInt_eq (b : List Int) (i h : Int) (l : List Int) (hl : 0 < l.length) (c : Cur b i) : ∃ x i' h', spec_l1PickInt.f b i h l = some (x, i', h') ∧ x ∈ l ∧ Cur b i' := by
  obtain ⟨x, i', h', e, ⟨h0, h1, _⟩, c'⟩ := l1Below_eq b i h (l.length : Int) c
  have h1' := h1 (by omega)
  refine ⟨_, _, _, by unfold spec_l1PickInt.f; rw [e]; simp only [Option.bind_some]; rw [if_pos h0, if_pos h1'], ?_, c'⟩
  obtain ⟨j, rfl⟩ := Int.eq_ofNat_of_zero_le h0
  rw [rd_get (by omega)]
  exact List.getElem_mem _
def DE {α : Type} (g : Nat → Option α) (P : α → Prop) : Prop := ∃ r, Ev g r ∧ P r
theorem DE.bind {α β : Type} {g : Nat → Option α} {f : α → Nat → Option β} {P : α → Prop} {Q : β → Prop} (h : DE g P) (k : ∀ x, P x → DE (f x) Q) : DE (fun n => (g n).bind fun x => f x n) Q := by
  obtain ⟨r, e, p⟩ := h
  obtain ⟨r', e', q⟩ := k r p
  exact ⟨r', Ev.bind e e', q⟩
theorem DE.now {α : Type} {r : α} {Q : α → Prop} (h : Q r) : DE (fun _ => some r) Q := ⟨r, Ev.now _, h⟩
theorem DE.ite {α : Type} {c : Prop} [Decidable c] {g f : Nat → Option α} {Q : α → Prop} (h : c → DE g Q) (k : ¬ c → DE f Q) : DE (fun n => if c then g n else f n) Q := by
  by_cases e : c
  · simp only [if_pos e]; exact h e
  · simp only [if_neg e]; exact k e
theorem DE.pos {α : Type} {c : Prop} [Decidable c] {g f : Nat → Option α} {Q : α → Prop} (e : c) (h : DE g Q) : DE (fun n => if c then g n else f n) Q := by simp only [if_pos e]; exact h
theorem DE.neg {α : Type} {c : Prop} [Decidable c] {g f : Nat → Option α} {Q : α → Prop} (e : ¬ c) (h : DE f Q) : DE (fun n => if c then g n else f n) Q := by simp only [if_neg e]; exact h
theorem DE.step {α : Type} {g f : Nat → Option α} {Q : α → Prop} (e : ∀ k, g (k + 1) = f k) (h : DE f Q) : DE g Q := by
  obtain ⟨r, e', q⟩ := h
  exact ⟨r, Ev.step e e', q⟩
theorem DE.congr {α : Type} {g f : Nat → Option α} {Q : α → Prop} (e : ∀ k, g k = f k) (h : DE f Q) : DE g Q := by
  obtain ⟨r, e', q⟩ := h
  exact ⟨r, Ev.congr e e', q⟩
theorem l1Below_de (b : List Int) (i h n : Int) (c : Cur b i) : DE (fun _ => spec_l1Below.f b i h n) (fun r => Cur b r.2.1 ∧ 0 ≤ r.1 ∧ (0 < n → r.1 < n) ∧ (n ≤ 0 → r.1 = 0)) := by
  obtain ⟨x, i', h', e, ⟨p, q, s⟩, c'⟩ := l1Below_eq b i h n c
  exact ⟨_, Ev.all fun _ => e, c', p, q, s⟩
theorem l1New_de (b : List Int) (hb : b.length ≤ 1048576) : DE (fun k => spec_l1New.f k b) (fun r => r.1 = b ∧ Cur b r.2.1) := by
  obtain ⟨h, e, c⟩ := l1New_ev b hb
  exact ⟨_, e, rfl, c⟩
theorem l1Once_de (b : List Int) (i h n : Int) (c : Cur b i) : DE (fun _ => spec_l1Once.f b i h n) (fun r => Cur b r.2.1) := by
  obtain ⟨x, i', h', e, c'⟩ := l1Once_eq b i h n c
  exact ⟨_, Ev.all fun _ => e, c'⟩
theorem l1PickInt_de (b : List Int) (i h : Int) (l : List Int) (hl : 0 < l.length) (c : Cur b i) : DE (fun _ => spec_l1PickInt.f b i h l) (fun r => Cur b r.2.1 ∧ r.1 ∈ l) := by
  obtain ⟨x, i', h', e, m, c'⟩ := l1PickInt_eq b i h l hl c
  exact ⟨_, Ev.all fun _ => e, c', m⟩
theorem l7DrawStep_j1_de (x1 x6 x7 x8 x9 x24 : Int) (q : Bool) (b : List Int) (i h y0 y1 y2 y3 y4 : Int) (c : Cur b i) : DE (fun k => spec_l7DrawStep.j1 k x1 x6 x7 x8 x9 x24 q b i h y0 y1 y2 y3 y4) (fun r => Cur b r.2.2.2.2.2.1) := by
  refine DE.step (fun k => by rw [spec_l7DrawStep.j1]) ?_
  repeat' first
    | with_reducible refine DE.ite (fun _ => ?_) (fun _ => ?_)
    | (with_reducible refine DE.bind (l1Below_de _ _ _ _ (by assumption)) ?_; rintro ⟨_, _, _⟩ ⟨_, _, _, _⟩; (try dsimp only at *))
    | (with_reducible refine DE.bind (l1PickInt_de _ _ _ _ (by simp) (by assumption)) ?_; rintro ⟨_, _, _⟩ ⟨_, _⟩; (try dsimp only at *))
    | exact DE.now (by dsimp only; assumption)
theorem l7DrawStep_j0_de (x1 x6 x7 x8 x9 x24 : Int) (q : Bool) (b : List Int) (i h y0 y1 y2 y3 y4 : Int) (c : Cur b i) : DE (fun k => spec_l7DrawStep.j0 k x1 x6 x7 x8 x9 x24 q b i h y0 y1 y2 y3 y4) (fun r => Cur b r.2.2.2.2.2.1) := by
  refine DE.step (fun k => by rw [spec_l7DrawStep.j0]) ?_
  repeat' first
    | with_reducible exact l7DrawStep_j1_de _ _ _ _ _ _ _ _ _ _ _ _ _ _ _ (by assumption)
    | with_reducible refine DE.ite (fun _ => ?_) (fun _ => ?_)
    | (with_reducible refine DE.bind (l1PickInt_de _ _ _ _ (by simp) (by assumption)) ?_; rintro ⟨_, _, _⟩ ⟨_, _⟩; (try dsimp only at *))
    | exact DE.now (by dsimp only; assumption)
theorem l7DrawStep_de (b : List Int) (i h n : Int) (c : Cur b i) : DE (fun k => spec_l7DrawStep.f k b i h n) (fun r => Cur b r.2.2.2.2.2.1) := by
  simp only [spec_l7DrawStep.f]
  repeat' first
    | with_reducible exact l7DrawStep_j0_de _ _ _ _ _ _ _ _ _ _ _ _ _ _ _ (by assumption)
    | with_reducible refine DE.ite (fun _ => ?_) (fun _ => ?_)
    | (with_reducible refine DE.bind (l1Below_de _ _ _ _ (by assumption)) ?_; rintro ⟨_, _, _⟩ ⟨_, _, _, _⟩; (try dsimp only at *))
    | (with_reducible refine DE.bind (l1PickInt_de _ _ _ _ (by simp) (by assumption)) ?_; rintro ⟨_, _, _⟩ ⟨_, _⟩; (try dsimp only at *))
    | exact DE.now (by dsimp only; assumption)
theorem l7Spoil_de (b : List Int) (i h y0 y1 y2 y3 y4 : Int) (c : Cur b i) : DE (fun _ => spec_l7Spoil.f b i h y0 y1 y2 y3 y4) (fun r => Cur b r.2.2.2.2.2.1) := by
  simp only [spec_l7Spoil.f]
  repeat' first
    | with_reducible refine DE.ite (fun _ => ?_) (fun _ => ?_)
    | (with_reducible refine DE.bind (l1Below_de _ _ _ _ (by assumption)) ?_; rintro ⟨_, _, _⟩ ⟨_, _, _, _⟩; (try dsimp only at *))
    | (with_reducible refine DE.bind (l1PickInt_de _ _ _ _ (by simp) (by assumption)) ?_; rintro ⟨_, _, _⟩ ⟨_, _⟩; (try dsimp only at *))
    | exact DE.now (by dsimp only; assumption)
theorem drawStepOk_de (code : List Int) (hc : code.length ≤ 1048576) : DE (fun k => spec_DrawStepOk.f k code) (fun _ => True) := by
  simp only [spec_DrawStepOk.f]
  refine DE.bind (l1New_de code hc) ?_
  rintro ⟨b, i, h⟩ ⟨e, c⟩
  dsimp only at *
  subst e
  refine DE.bind (l7DrawStep_de _ _ _ _ c) ?_
  rintro ⟨_, _, _, _, _, _, _⟩ c1
  dsimp only at *
  refine DE.bind (l1Once_de _ _ _ _ c1) ?_
  rintro ⟨_, _, _⟩ c2
  dsimp only at *
  refine DE.ite (fun _ => ?_) (fun _ => DE.now trivial)
  refine DE.bind (l7Spoil_de _ _ _ _ _ _ _ _ c2) ?_
  rintro ⟨_, _, _, _, _, _, _⟩ c3
  exact DE.now trivial
theorem l7DrawCode_de (b : List Int) (i h : Int) (c : Cur b i) : DE (fun k => spec_l7DrawCode.f k b i h) (fun r => Cur b r.2.1 ∧ 0 < r.1.length ∧ r.1.length ≤ 16) := by
  simp only [spec_l7DrawCode.f]
  refine DE.bind (l1Below_de _ _ _ _ c) ?_
  rintro ⟨n, i1, h1⟩ ⟨c1, n0, n1, _⟩
  dsimp only at *
  have n1' := n1 (by omega)
  obtain ⟨N, rfl⟩ := Int.eq_ofNat_of_zero_le n0
  rw [wrap_in (by omega) (by omega)]
  have key : ∀ d (j : Nat) i h (l : List S25), j + d = N + 1 → l.length = j → Cur b i → DE (fun k => spec_l7DrawCode.l0 k (2 + (N : Int)) l (j : Int) b i h) (fun r => Cur b r.2.1 ∧ 0 < r.1.length ∧ r.1.length ≤ 16) := by
    intro d
    induction d with
    | zero =>
      intro j i h l hj hl c
      refine DE.step (fun k => by rw [spec_l7DrawCode.l0]) ?_
      rw [wrap_in (n := 2 + (N : Int) - 1) (by omega) (by omega)]
      refine DE.neg (by omega) ?_
      refine DE.bind (l1PickInt_de _ _ _ _ (by simp) c) ?_
      rintro ⟨_, _, _⟩ ⟨c2, _⟩
      dsimp only at *
      refine DE.pos (by omega) (DE.now ?_)
      dsimp only
      exact ⟨c2, by simp, by simp; omega⟩
    | succ d ih =>
      intro j i h l hj hl c
      refine DE.step (fun k => by rw [spec_l7DrawCode.l0]) ?_
      rw [wrap_in (n := 2 + (N : Int) - 1) (by omega) (by omega)]
      refine DE.pos (by omega) ?_
      refine DE.bind (l7DrawStep_de _ _ _ _ c) ?_
      rintro ⟨_, _, _, _, _, _, _⟩ c2
      dsimp only at *
      refine DE.pos (by omega) ?_
      rw [wrapS (n := 99) (by omega) (by omega)]
      exact ih (j + 1) _ _ _ (by omega) (by simp [hl]) c2
  exact key (N + 1) 0 i1 h1 [] (by omega) rfl c1
theorem drawCodeOk_de (code : List Int) (hc : code.length ≤ 1048576) : DE (fun k => spec_DrawCodeOk.f k code) (fun r => r.length ≤ 16) := by
  simp only [spec_DrawCodeOk.f]
  refine DE.bind (l1New_de code hc) ?_
  rintro ⟨b, i, h⟩ ⟨e, c⟩
  dsimp only at *
  subst e
  refine DE.bind (l7DrawCode_de _ _ _ c) ?_
  rintro ⟨l, _, _⟩ ⟨c1, l0, l1⟩
  dsimp only at *
  refine DE.bind (l1Below_de _ _ _ _ c1) ?_
  rintro ⟨n, _, _⟩ ⟨c2, n0, n1, _⟩
  dsimp only at *
  have n1' := n1 (by omega)
  refine DE.bind (l1Once_de _ _ _ _ c2) ?_
  rintro ⟨_, _, _⟩ c3
  dsimp only at *
  refine DE.ite (fun _ => ?_) (fun _ => ?_)
  · refine DE.pos n0 (DE.pos n1' ?_)
    refine DE.bind (l7Spoil_de _ _ _ _ _ _ _ _ c3) ?_
    rintro ⟨_, _, _, _, _, _, _⟩ c4
    dsimp only at *
    simp only [Option.bind_some]
    refine DE.bind (l1Once_de _ _ _ _ c4) ?_
    rintro ⟨_, _, _⟩ c5
    dsimp only at *
    refine DE.ite (fun _ => ?_) (fun _ => ?_)
    · exact DE.pos (by omega) (DE.now (by simp; omega))
    · exact DE.now (by simp; omega)
  · refine DE.bind (l1Once_de _ _ _ _ c3) ?_
    rintro ⟨_, _, _⟩ c5
    dsimp only at *
    refine DE.ite (fun _ => ?_) (fun _ => ?_)
    · exact DE.pos n0 (DE.pos (by omega) (DE.now (by simp; omega)))
    · exact DE.now (by omega)
def inn (a lo hi : Int) : Bool := decide (lo ≤ a ∧ a ≤ hi)
theorem spec_l1In_eq (a lo hi : Int) : spec_l1In.f a lo hi = some (inn a lo hi) := by
  unfold spec_l1In.f inn
  by_cases h : a ≥ lo
  · rw [if_pos h]; congr 1; simp; omega
  · rw [if_neg h, decide_eq_false (by omega)]
theorem impl_within_eq (a lo hi : Int) : impl_within.f a lo hi = some (inn a lo hi) := by
  unfold impl_within.f inn
  by_cases h : a ≥ lo
  · rw [if_pos h]; congr 1; simp; omega
  · rw [if_neg h, decide_eq_false (by omega)]
def StepR (op r a b n p : Int) : Prop :=
  (0 ≤ r ∧ r ≤ 7) ∧ (0 ≤ b ∧ b ≤ 7) ∧ ((0 ≤ a ∧ a ≤ 7) ∨ (a = -1 ∧ (op = 5 ∨ op = 6 ∨ op = 7))) ∧
  ((op = 1 ∧ (-1000000000 ≤ n ∧ n ≤ 1000000000) ∧ a = 0 ∧ b = 0) ∨ ((op = 2 ∨ op = 3 ∨ op = 4) ∧ n = 0) ∨ (op = 5 ∧ (0 ≤ n ∧ n ≤ 23) ∧ b = 0) ∨
   ((op = 6 ∨ op = 7) ∧ (0 ≤ n ∧ n ≤ 23) ∧ r = 0) ∨ (op = 8 ∧ (0 ≤ n ∧ n ≤ 23) ∧ a = 0) ∨ (op = 9 ∧ r = 0 ∧ b = 0 ∧ n = 0) ∨
   (op = 10 ∧ (0 ≤ n ∧ n < p) ∧ r = 0 ∧ a = 0 ∧ b = 0) ∨ (op = 11 ∧ (0 ≤ n ∧ n < p) ∧ r = 0 ∧ b = 0) ∨ ((op = 12 ∨ op = 13) ∧ r = 0 ∧ a = 0 ∧ b = 0 ∧ n = 0))
instance (op r a b n p : Int) : Decidable (StepR op r a b n p) := by unfold StepR; infer_instance
def stepOk (op r a b n p : Int) : Bool := decide (StepR op r a b n p)
theorem op_cases (op : Int) : op = 1 ∨ op = 2 ∨ op = 3 ∨ op = 4 ∨ op = 5 ∨ op = 6 ∨ op = 7 ∨ op = 8 ∨ op = 9 ∨ op = 10 ∨ op = 11 ∨ op = 12 ∨ op = 13 ∨ (op < 1 ∨ 13 < op) := by omega
theorem spec_l7Reg_eq (a : Int) : spec_l7Reg.f a = some (inn a 0 7) := by simp [spec_l7Reg.f, spec_l1In_eq]
theorem spec_StepOk_ev (op r a b n p : Int) : Ev (fun k => spec_StepOk.f k op r a b n p) (stepOk op r a b n p) := by
  refine ⟨5, fun k hk => ?_⟩
  obtain ⟨m, rfl⟩ : ∃ m, k = m + 5 := ⟨k - 5, by omega⟩
  simp only [spec_StepOk.f, spec_StepOk.j0, spec_StepOk.j1, spec_StepOk.j2, spec_StepOk.j3, spec_StepOk.j4, spec_l7Reg_eq, spec_l1In_eq, Option.bind_some, inn, stepOk, decide_eq_true_eq]
  rcases op_cases op with rfl | rfl | rfl | rfl | rfl | rfl | rfl | rfl | rfl | rfl | rfl | rfl | rfl | h
  case inr.inr.inr.inr.inr.inr.inr.inr.inr.inr.inr.inr.inr =>
    have h' : ¬ StepR op r a b n p := by unfold StepR; omega
    simp only [if_neg (show ¬ op = 1 by omega), if_neg (show ¬ op = 2 by omega), if_neg (show ¬ op = 3 by omega), if_neg (show ¬ op = 4 by omega), if_neg (show ¬ op = 5 by omega), if_neg (show ¬ op = 6 by omega), if_neg (show ¬ op = 7 by omega), if_neg (show ¬ op = 8 by omega), if_neg (show ¬ op = 9 by omega), if_neg (show ¬ op = 10 by omega), if_neg (show ¬ op = 11 by omega), if_neg (show ¬ op = 12 by omega), if_neg (show ¬ op = 13 by omega), decide_eq_false h']
    have h4 : (op == 4) = false := by simpa using (show ¬ op = 4 by omega)
    have h7 : (op == 7) = false := by simpa using (show ¬ op = 7 by omega)
    simp only [h4, h7, Bool.false_eq_true, if_false]
    repeat' split
    all_goals rfl
  all_goals
    simp only [StepR]
    simp
    repeat' split
    all_goals first
      | (congr 1; rw [Bool.eq_iff_iff]; simp; omega)
      | (simp; omega)
theorem impl_isCell_eq (a : Int) : impl_isCell.f a = some (inn a 0 23) := by simp [impl_isCell.f, impl_within_eq]
theorem impl_StepOk_ev (op r a b n p : Int) : Ev (fun k => impl_StepOk.f k op r a b n p) (stepOk op r a b n p) := by
  refine ⟨8, fun k hk => ?_⟩
  obtain ⟨m, rfl⟩ : ∃ m, k = m + 8 := ⟨k - 8, by omega⟩
  simp only [impl_StepOk.f, impl_StepOk.j0, impl_StepOk.j1, impl_StepOk.j2, impl_stepNamed.f, impl_stepNamed.j0, impl_stepNamed.j1, impl_isCell_eq, impl_within_eq, Option.bind_some, inn, stepOk, decide_eq_true_eq]
  rcases op_cases op with rfl | rfl | rfl | rfl | rfl | rfl | rfl | rfl | rfl | rfl | rfl | rfl | rfl | h
  case inr.inr.inr.inr.inr.inr.inr.inr.inr.inr.inr.inr.inr =>
    have h' : ¬ StepR op r a b n p := by unfold StepR; omega
    rw [if_neg (by omega), if_neg (by omega), decide_eq_false h', if_pos trivial]
  all_goals
    simp only [StepR]
    simp
    repeat' split
    all_goals first
      | (congr 1; rw [Bool.eq_iff_iff]; simp; omega)
      | (simp; omega)
def stepIn (p : Int) (x : S25) : Bool := stepOk x.f0 x.f1 x.f2 x.f3 x.f4 p
def lastStep (l : List S25) : Bool := decide ((l.getD (l.length - 1) z25).f0 = 10 ∨ (l.getD (l.length - 1) z25).f0 = 12 ∨ (l.getD (l.length - 1) z25).f0 = 13)
def codeOk (l : List S25) : Bool := inn (l.length : Int) 1 800 && (l.all (stepIn (l.length : Int)) && lastStep l)
theorem rd_step (l : List S25) (j : Nat) (h : j < l.length) : rd_T25 l (j : Int) = l[j] := by simp [rd_T25, List.getD_eq_getElem?_getD, h]
theorem last_step (l : List S25) : (if (l.getD (l.length - 1) z25).f0 = 10 then some true else if (l.getD (l.length - 1) z25).f0 = 12 then some true else some ((l.getD (l.length - 1) z25).f0 == 13)) = some (lastStep l) := by
  unfold lastStep
  generalize (l.getD (l.length - 1) z25).f0 = q
  by_cases h : q = 10
  · rw [if_pos h, decide_eq_true (.inl h)]
  · by_cases h' : q = 12
    · rw [if_neg h, if_pos h', decide_eq_true (.inr (.inl h'))]
    · rw [if_neg h, if_neg h']
      congr 1
      rw [Bool.eq_iff_iff]
      simp [h, h']
theorem rd_last_step (l : List S25) (h : 1 ≤ l.length) : rd_T25 l ((l.length : Int) - 1) = l.getD (l.length - 1) z25 := by
  rw [rd_T25, show ((l.length : Int) - 1).toNat = l.length - 1 by omega]
theorem spec_CodeOk_ev (l : List S25) (hl : l.length ≤ 1048576) : Ev (fun k => spec_CodeOk.f k l) (codeOk l) := by
  simp only [spec_CodeOk.f, spec_l1In_eq, Option.bind_some]
  by_cases h1 : inn (l.length : Int) 1 800 = true
  · have h1' : 1 ≤ (l.length : Int) := by simp only [inn, decide_eq_true_eq] at h1; exact h1.1
    refine Ev.ite_pos h1 ?_
    refine Ev.val (r := l.all (stepIn (l.length : Int)) && lastStep l) (by unfold codeOk; rw [h1, Bool.true_and]) ?_
    refine all_loop (L := fun j k => spec_CodeOk.l0 k l (l.length : Int) (j : Int)) l (stepIn (l.length : Int)) ?_ (fun j hj hp r ih => ?_) (fun j hj hp => ?_)
    · refine Ev.one fun k => ?_
      simp only [spec_CodeOk.l0]
      rw [if_neg (by omega), wrap_in (by omega) (by omega), if_pos (by omega), if_pos (by omega), rd_last_step l (by omega), last_step]
    · refine Ev.step (fun k => by simp only [spec_CodeOk.l0]; rw [if_pos (by omega), if_pos (by omega), if_pos (by omega), rd_step l j hj]) (Ev.bind (spec_StepOk_ev ..) ?_)
      refine Ev.ite_pos hp ?_
      rw [wrapS hj (by omega)]
      exact ih
    · refine Ev.step (fun k => by simp only [spec_CodeOk.l0]; rw [if_pos (by omega), if_pos (by omega), if_pos (by omega), rd_step l j hj]) (Ev.bind (spec_StepOk_ev ..) ?_)
      exact Ev.ite_neg (fun e => by have e' : stepIn (l.length : Int) l[j] = true := e; rw [hp] at e'; cases e') (Ev.now _)
  · refine Ev.ite_neg h1 ?_
    rw [codeOk, show inn (l.length : Int) 1 800 = false by simpa using h1, Bool.false_and]
    exact Ev.now _
theorem impl_CodeOk_ev (l : List S25) (hl : l.length ≤ 1048576) : Ev (fun k => impl_CodeOk.f k l) (codeOk l) := by
  simp only [impl_CodeOk.f, impl_within_eq, Option.bind_some]
  by_cases h1 : inn (l.length : Int) 1 800 = true
  · have h1' : 1 ≤ (l.length : Int) := by simp only [inn, decide_eq_true_eq] at h1; exact h1.1
    refine Ev.ite_pos h1 ?_
    refine Ev.val (r := l.all (stepIn (l.length : Int)) && lastStep l) (by unfold codeOk; rw [h1, Bool.true_and]) ?_
    refine all_loop (L := fun j k => impl_CodeOk.l0 k l l (l.length : Int) (j : Int)) l (stepIn (l.length : Int)) ?_ (fun j hj hp r ih => ?_) (fun j hj hp => ?_)
    · refine Ev.one fun k => ?_
      simp only [impl_CodeOk.l0]
      rw [if_neg (by omega), wrap_in (by omega) (by omega), if_pos (by omega), if_pos (by omega), rd_last_step l (by omega), last_step]
    · refine Ev.step (fun k => by simp only [impl_CodeOk.l0]; rw [if_pos (by omega), if_pos (by omega), if_pos (by omega), rd_step l j hj]) (Ev.bind (impl_StepOk_ev ..) ?_)
      refine Ev.ite_pos hp ?_
      rw [wrapS hj (by omega)]
      exact ih
    · refine Ev.step (fun k => by simp only [impl_CodeOk.l0]; rw [if_pos (by omega), if_pos (by omega), if_pos (by omega), rd_step l j hj]) (Ev.bind (impl_StepOk_ev ..) ?_)
      exact Ev.ite_neg (fun e => by have e' : stepIn (l.length : Int) l[j] = true := e; rw [hp] at e'; cases e') (Ev.now _)
  · refine Ev.ite_neg h1 ?_
    rw [codeOk, show inn (l.length : Int) 1 800 = false by simpa using h1, Bool.false_and]
    exact Ev.now _
def num (n : Int) : ByteArray := ⟨(Lib.itoa n).toArray⟩
def In64 (n : Int) : Prop := -9223372036854775808 ≤ n ∧ n ≤ 9223372036854775807
theorem num_size {n : Int} (h : In64 n) : (num n).size ≤ 21 := by
  show (Lib.itoa n).toArray.size ≤ 21
  rw [List.size_toArray]
  exact Lib.itoa_length_le n h.1 h.2
theorem impl_digits_eq {n : Int} (h : In64 n) : impl_digits.f n = some (num n) := if_pos h
theorem ba_append (a b : List UInt8) : (⟨a.toArray⟩ : ByteArray) ++ ⟨b.toArray⟩ = ⟨(a ++ b).toArray⟩ := by
  apply ByteArray.ext
  rw [ByteArray.data_append]
  simp
def dd (u : Nat) : List UInt8 := if u = 0 then [] else Lib.decDigits u
theorem dd_step {u : Nat} (h : u ≠ 0) : dd u = dd (u / 10) ++ [UInt8.ofNat (48 + u % 10)] := by
  unfold dd
  rw [if_neg h]
  by_cases c : u < 10
  · rw [if_pos (by omega), Lib.decDigits, dif_pos c, Nat.mod_eq_of_lt c]
    rfl
  · rw [if_neg (by omega), Lib.decDigits, dif_neg c]
theorem dd_length : ∀ {k u : Nat}, u < 10 ^ k → (dd u).length ≤ k
  | 0, u, h => by
    obtain rfl : u = 0 := by simpa using h
    simp [dd]
  | k + 1, u, h => by
    by_cases c : u = 0
    · subst c; simp [dd]
    · rw [dd_step c, List.length_append, List.length_singleton]
      have := dd_length (k := k) (u := u / 10) (by rw [Nat.pow_succ] at h; omega)
      omega
theorem one_char (d : Nat) (h : d < 10) : strOfNums [(48 + (d : Int)) % 256] = ⟨[UInt8.ofNat (48 + d)].toArray⟩ := by
  unfold strOfNums
  rw [List.map_cons, List.map_nil, show ((48 + (d : Int)) % 256).toNat = 48 + d by omega]
theorem digits_loop : ∀ (u : Nat) (x : Int) (neg : Bool) (s : ByteArray), x.natAbs = u → In64 x → s.size + (dd u).length ≤ 100 → Ev (fun k => spec_l2Digits.l0 k x neg s) ((if neg = true then (⟨#[45]⟩ : ByteArray) else ByteArray.empty) ++ (⟨(dd u).toArray⟩ ++ s)) := by
  intro u
  induction u using Nat.strongRecOn with
  | ind u ih =>
    intro x neg s hx hr hs
    by_cases h0 : x = 0
    · subst h0
      obtain rfl : u = 0 := by simpa using hx.symm
      have e0 : (⟨(dd 0).toArray⟩ : ByteArray) ++ s = s := ByteArray.empty_append
      rw [e0]
      refine Ev.step (fun k => by rw [spec_l2Digits.l0]) ?_
      refine Ev.ite_pos rfl ?_
      cases neg with
      | true => exact Ev.ite_pos rfl (Ev.ite_pos (by omega) (Ev.now _))
      | false =>
        refine Ev.ite_neg (by simp) ?_
        rw [if_neg (by simp), ByteArray.empty_append]
        exact Ev.now _
    · have hu : u ≠ 0 := by omega
      have hd : (dd u).length = (dd (u / 10)).length + 1 := by rw [dd_step hu]; simp
      have hsz : (strOfNums [(48 + ((u % 10 : Nat) : Int)) % 256]).size = 1 := by rw [one_char _ (by omega)]; rfl
      have next : ∀ y : Int, y.natAbs = u / 10 → In64 y → Ev (fun k => spec_l2Digits.l0 k y neg (strOfNums [(48 + ((u % 10 : Nat) : Int)) % 256] ++ s)) ((if neg = true then (⟨#[45]⟩ : ByteArray) else ByteArray.empty) ++ (⟨(dd u).toArray⟩ ++ s)) := by
        intro y hy hry
        refine Ev.val ?_ (ih (u / 10) (by omega) y neg _ hy hry (by rw [ByteArray.size_append, hsz]; omega))
        rw [one_char _ (by omega), dd_step hu, ← ba_append, ByteArray.append_assoc]
      refine Ev.step (fun k => by rw [spec_l2Digits.l0]) ?_
      refine Ev.ite_neg h0 ?_
      simp only [Option.bind_some]
      unfold In64 at hr
      rcases Int.le_total 0 x with hp | hp
      · obtain rfl : x = (u : Int) := by omega
        have em : Int.tmod (u : Int) 10 = ((u % 10 : Nat) : Int) := by rw [Int.tmod_eq_emod_of_nonneg (by omega)]; omega
        have ed : Int.tdiv (u : Int) 10 = ((u / 10 : Nat) : Int) := by rw [Int.tdiv_eq_ediv_of_nonneg (by omega)]; omega
        rw [em, ed]
        refine Ev.ite_neg (by omega) ?_
        rw [wrap_in (n := 48 + ((u % 10 : Nat) : Int)) (by omega) (by omega), wrap_in (n := ((u / 10 : Nat) : Int)) (by omega) (by omega)]
        refine Ev.ite_pos (by rw [hsz]; omega) ?_
        exact next _ (by omega) ⟨by omega, by omega⟩
      · obtain ⟨v, hv⟩ : ∃ v : Nat, v = u := ⟨u, rfl⟩
        obtain rfl : x = -(u : Int) := by omega
        have em : Int.tmod (-(u : Int)) 10 = -((u % 10 : Nat) : Int) := by rw [Int.neg_tmod, Int.tmod_eq_emod_of_nonneg (by omega)]; omega
        have ed : Int.tdiv (-(u : Int)) 10 = -((u / 10 : Nat) : Int) := by rw [Int.neg_tdiv, Int.tdiv_eq_ediv_of_nonneg (by omega)]; omega
        rw [em, ed, Int.neg_neg]
        have e3 : wrap64 (-((u / 10 : Nat) : Int)) = -((u / 10 : Nat) : Int) := wrap_in (by omega) (by omega)
        by_cases hz : -((u % 10 : Nat) : Int) < 0
        · refine Ev.ite_pos hz ?_
          rw [wrap_in (n := ((u % 10 : Nat) : Int)) (by omega) (by omega), wrap_in (n := 48 + ((u % 10 : Nat) : Int)) (by omega) (by omega), e3]
          refine Ev.ite_pos (by rw [hsz]; omega) ?_
          exact next _ (by omega) ⟨by omega, by omega⟩
        · refine Ev.ite_neg hz ?_
          have e0 : ((u % 10 : Nat) : Int) = 0 := by omega
          rw [show -((u % 10 : Nat) : Int) = ((u % 10 : Nat) : Int) by omega, wrap_in (n := 48 + ((u % 10 : Nat) : Int)) (by omega) (by omega), e3]
          refine Ev.ite_pos (by rw [hsz]; omega) ?_
          exact next _ (by omega) ⟨by omega, by omega⟩
theorem spec_l2Digits_ev {n : Int} (h : In64 n) : Ev (fun k => spec_l2Digits.f k n) (num n) := by
  simp only [spec_l2Digits.f]
  by_cases h0 : n = 0
  · subst h0
    refine Ev.ite_pos rfl ?_
    refine Ev.val (r := (⟨#[48]⟩ : ByteArray)) ?_ (Ev.now _)
    unfold num Lib.itoa
    rw [if_neg (by omega), Int.toNat_zero, Lib.decDigits, dif_pos (by omega)]
    rfl
  · refine Ev.ite_neg h0 ?_
    have hd : (dd n.natAbs).length ≤ 19 := dd_length (by unfold In64 at h; omega)
    refine Ev.val ?_ (digits_loop n.natAbs n (decide (n < 0)) (⟨#[]⟩ : ByteArray) rfl h (by show 0 + _ ≤ 100; omega))
    have e : ∀ x : ByteArray, x ++ (⟨#[]⟩ : ByteArray) = x := fun x => ByteArray.append_empty
    rw [e]
    unfold num Lib.itoa dd
    rw [if_neg (c := n.natAbs = 0) (by omega)]
    by_cases hn : n < 0
    · rw [if_pos (by simpa using hn), if_pos hn]
      exact ba_append [45] _
    · rw [if_neg (by simpa using hn), if_neg hn, ByteArray.empty_append, show n.toNat = n.natAbs by omega]
theorem sz_mk (a : Array UInt8) : (⟨a⟩ : ByteArray).size = a.size := rfl
def txt (l : List UInt8) : ByteArray := ⟨l.toArray⟩
theorem txt_mk (a : Array UInt8) : (⟨a⟩ : ByteArray) = txt a.toList := rfl
theorem txt_num (n : Int) : num n = txt (Lib.itoa n) := rfl
theorem txt_append (a b : List UInt8) : txt a ++ txt b = txt (a ++ b) := ba_append a b
theorem step_in {op r a b n : Int} (h : stepOk op r a b n 800 = true) : (1 ≤ op ∧ op ≤ 13) ∧ In64 r ∧ In64 a ∧ In64 b ∧ In64 n ∧ -1 ≤ a := by
  unfold stepOk at h
  rw [decide_eq_true_eq] at h
  obtain ⟨h1, h2, h3, h4⟩ := h
  unfold In64
  rcases h4 with h | h | h | h | h | h | h | h | h <;> omega
def regT (r : Int) : ByteArray := (⟨#[32, 114]⟩ : ByteArray) ++ num r
def cellT (op a n : Int) : ByteArray := if a < 0 ∨ op = 8 then ((⟨#[32, 91]⟩ : ByteArray) ++ num n) ++ (⟨#[93]⟩ : ByteArray) else ((((⟨#[32, 91]⟩ : ByteArray) ++ num n) ++ (⟨#[43, 114]⟩ : ByteArray)) ++ num a) ++ (⟨#[93]⟩ : ByteArray)
theorem regT_size {r : Int} (h : In64 r) : (regT r).size ≤ 23 := by
  have := num_size h
  simp only [regT, ByteArray.size_append, sz_mk, List.size_toArray, List.length_cons, List.length_nil]
  omega
theorem cellT_size {op a n : Int} (ha : In64 a) (hn : In64 n) : (cellT op a n).size ≤ 60 := by
  have := num_size ha
  have := num_size hn
  unfold cellT
  split <;> simp only [ByteArray.size_append, sz_mk, List.size_toArray, List.length_cons, List.length_nil] <;> omega
theorem spec_l16R_ev {r : Int} (h : In64 r) : Ev (fun k => spec_l16R.f k r) (regT r) := by
  have := num_size h
  simp only [spec_l16R.f]
  refine Ev.bind (spec_l2Digits_ev h) ?_
  exact Ev.ite_pos (by omega) (Ev.now _)
theorem spec_l16Cell_ev (op r a b n : Int) (ha : In64 a) (hn : In64 n) : Ev (fun k => spec_l16Cell.f k op r a b n) (cellT op a n) := by
  have h1 := num_size ha
  have h2 := num_size hn
  have key : ∀ q, (q = true ↔ (a < 0 ∨ op = 8)) → Ev (fun k => spec_l16Cell.j0 k q op r a b n) (cellT op a n) := by
    intro q hq
    refine Ev.step (fun k => by rw [spec_l16Cell.j0]) ?_
    unfold cellT
    by_cases hc : a < 0 ∨ op = 8
    · refine Ev.ite_pos (hq.2 hc) ?_
      rw [if_pos hc]
      refine Ev.bind (spec_l2Digits_ev hn) ?_
      refine Ev.ite_pos (by omega) (Ev.ite_pos (by (try simp only [ByteArray.size_append, sz_mk, List.size_toArray, List.length_cons, List.length_nil]); omega) (Ev.now _))
    · refine Ev.ite_neg (fun e => hc (hq.1 e)) ?_
      rw [if_neg hc]
      refine Ev.bind (spec_l2Digits_ev hn) ?_
      refine Ev.ite_pos (by omega) (Ev.ite_pos (by (try simp only [ByteArray.size_append, sz_mk, List.size_toArray, List.length_cons, List.length_nil]); omega) ?_)
      refine Ev.bind (spec_l2Digits_ev ha) ?_
      refine Ev.ite_pos (by (try simp only [ByteArray.size_append, sz_mk, List.size_toArray, List.length_cons, List.length_nil]); omega) (Ev.ite_pos (by (try simp only [ByteArray.size_append, sz_mk, List.size_toArray, List.length_cons, List.length_nil]); omega) (Ev.now _))
  simp only [spec_l16Cell.f]
  by_cases hc : a < 0
  · exact Ev.ite_pos hc (key true (by simp [hc]))
  · exact Ev.ite_neg hc (key (op == 8) (by simp [hc]))
def stepBody (op r a b n : Int) : ByteArray :=
  if op = 1 then ((⟨#[115, 101, 116]⟩ : ByteArray) ++ regT r) ++ ((⟨#[32]⟩ : ByteArray) ++ num n)
  else if op = 2 then (((⟨#[97, 100, 100]⟩ : ByteArray) ++ regT r) ++ regT a) ++ regT b
  else if op = 3 then (((⟨#[115, 117, 98]⟩ : ByteArray) ++ regT r) ++ regT a) ++ regT b
  else if op = 4 then (((⟨#[108, 101, 115, 115]⟩ : ByteArray) ++ regT r) ++ regT a) ++ regT b
  else if op = 5 then ((⟨#[108, 111, 97, 100]⟩ : ByteArray) ++ regT r) ++ cellT op a n
  else if op = 6 then ((⟨#[115, 116, 111, 114, 101]⟩ : ByteArray) ++ cellT op a n) ++ regT b
  else if op = 7 then ((⟨#[108, 101, 116]⟩ : ByteArray) ++ cellT op a n) ++ regT b
  else if op = 8 then (((⟨#[115, 119, 97, 112]⟩ : ByteArray) ++ regT r) ++ cellT op a n) ++ regT b
  else if op = 9 then (⟨#[112, 114, 105, 110, 116]⟩ : ByteArray) ++ regT a
  else if op = 10 then (⟨#[106, 117, 109, 112]⟩ : ByteArray) ++ ((⟨#[32]⟩ : ByteArray) ++ num n)
  else if op = 11 then ((⟨#[122, 101, 114, 111]⟩ : ByteArray) ++ regT a) ++ ((⟨#[32]⟩ : ByteArray) ++ num n)
  else if op = 12 then (⟨#[101, 110, 100]⟩ : ByteArray) else (⟨#[102, 97, 117, 108, 116]⟩ : ByteArray)
def stepText (op r a b n : Int) : ByteArray := if stepOk op r a b n 800 = true then stepBody op r a b n else (⟨#[]⟩ : ByteArray)
theorem spec_StepText_ev (op r a b n : Int) : Ev (fun k => spec_StepText.f k op r a b n) (stepText op r a b n) := by
  simp only [spec_StepText.f]
  refine Ev.bind (spec_StepOk_ev ..) ?_
  unfold stepText
  by_cases h : stepOk op r a b n 800 = true
  · refine Ev.ite_pos h ?_
    rw [if_pos h]
    obtain ⟨_, hr, ha, hb, hn, _⟩ := step_in h
    have sr := regT_size hr
    have sa := regT_size ha
    have sb := regT_size hb
    have sn := num_size hn
    have sc := cellT_size (op := op) ha hn
    refine Ev.bind (spec_l16R_ev hr) ?_
    refine Ev.bind (spec_l16R_ev ha) ?_
    refine Ev.bind (spec_l16R_ev hb) ?_
    refine Ev.bind (spec_l2Digits_ev hn) ?_
    refine Ev.ite_pos (by omega) ?_
    unfold stepBody
    have sz : ∀ {p : Prop} [Decidable p] {g : Nat → Option ByteArray} {x : ByteArray}, p → Ev g x → Ev (fun k => if p then g k else none) x := fun hp hg => Ev.ite_pos hp hg
    rcases op_cases op with rfl | rfl | rfl | rfl | rfl | rfl | rfl | rfl | rfl | rfl | rfl | rfl | rfl | h'
    case inr.inr.inr.inr.inr.inr.inr.inr.inr.inr.inr.inr.inr => omega
    all_goals
      simp (decide := true) only [if_true, if_false]
      repeat' first
        | with_reducible exact Ev.now _
        | (with_reducible refine Ev.bind (spec_l16Cell_ev _ _ _ _ _ ha hn) ?_)
        | (with_reducible refine sz (by (try simp only [ByteArray.size_append, sz_mk, List.size_toArray, List.length_cons, List.length_nil]); omega) ?_)
  · refine Ev.ite_neg h ?_
    rw [if_neg h]
    exact Ev.now _
theorem impl_reg_eq {r : Int} (h : In64 r) : impl_reg.f r = some ((⟨#[114]⟩ : ByteArray) ++ num r) := by
  have := num_size h
  simp only [impl_reg.f, impl_digits_eq h, Option.bind_some]
  rw [if_pos (by omega)]
theorem impl_threeText_eq (op r a b n : Int) (hr : In64 r) (ha : In64 a) (hb : In64 b) : ∃ t, impl_threeText.f op r a b n = some t ∧ (⟨#[32]⟩ : ByteArray) ++ t = (regT r ++ regT a) ++ regT b ∧ t.size ≤ 100 := by
  have h1 := num_size hr
  have h2 := num_size ha
  have h3 := num_size hb
  refine ⟨((((((⟨#[114]⟩ : ByteArray) ++ num r) ++ (⟨#[32]⟩ : ByteArray)) ++ ((⟨#[114]⟩ : ByteArray) ++ num a)) ++ (⟨#[32]⟩ : ByteArray)) ++ ((⟨#[114]⟩ : ByteArray) ++ num b)), ?_, ?_, ?_⟩
  · simp only [impl_threeText.f, impl_reg_eq hr, impl_reg_eq ha, impl_reg_eq hb, Option.bind_some]
    rw [if_pos (by (try simp only [ByteArray.size_append, sz_mk, List.size_toArray, List.length_cons, List.length_nil]); omega), if_pos (by (try simp only [ByteArray.size_append, sz_mk, List.size_toArray, List.length_cons, List.length_nil]); omega), if_pos (by (try simp only [ByteArray.size_append, sz_mk, List.size_toArray, List.length_cons, List.length_nil]); omega), if_pos (by (try simp only [ByteArray.size_append, sz_mk, List.size_toArray, List.length_cons, List.length_nil]); omega)]
  · simp [regT, txt_mk, txt_num, txt_append]
  · simp only [ByteArray.size_append, sz_mk, List.size_toArray, List.length_cons, List.length_nil]; omega
theorem impl_cellText_ev (op r a b n : Int) (ha : In64 a) (hn : In64 n) : ∃ t, Ev (fun k => impl_cellText.f k op r a b n) t ∧ (⟨#[32]⟩ : ByteArray) ++ t = cellT op a n ∧ t.size ≤ 100 := by
  have h1 := num_size ha
  have h2 := num_size hn
  have key : ∀ q, (q = false ↔ (a < 0 ∨ op = 8)) → ∃ t, Ev (fun k => impl_cellText.j0 k q op r a b n) t ∧ (⟨#[32]⟩ : ByteArray) ++ t = cellT op a n ∧ t.size ≤ 100 := by
    intro q hq
    unfold cellT
    cases q with
    | true =>
      have hc : ¬ (a < 0 ∨ op = 8) := fun e => by have := hq.2 e; cases this
      rw [if_neg hc]
      refine ⟨((((((⟨#[91]⟩ : ByteArray) ++ num n) ++ (⟨#[43]⟩ : ByteArray)) ++ ((⟨#[114]⟩ : ByteArray) ++ num a))) ++ (⟨#[93]⟩ : ByteArray)), Ev.one fun k => ?_, ?_, ?_⟩
      · rw [impl_cellText.j0, if_pos rfl, impl_digits_eq hn, Option.bind_some, if_pos (by omega), if_pos (by (try simp only [ByteArray.size_append, sz_mk, List.size_toArray, List.length_cons, List.length_nil]); omega), impl_reg_eq ha, Option.bind_some, if_pos (by (try simp only [ByteArray.size_append, sz_mk, List.size_toArray, List.length_cons, List.length_nil]); omega), if_pos (by (try simp only [ByteArray.size_append, sz_mk, List.size_toArray, List.length_cons, List.length_nil]); omega)]
      · simp [txt_mk, txt_num, txt_append]
      · simp only [ByteArray.size_append, sz_mk, List.size_toArray, List.length_cons, List.length_nil]; omega
    | false =>
      rw [if_pos (hq.1 rfl)]
      refine ⟨((⟨#[91]⟩ : ByteArray) ++ num n) ++ (⟨#[93]⟩ : ByteArray), Ev.one fun k => ?_, ?_, ?_⟩
      · rw [impl_cellText.j0, if_neg (by simp), impl_digits_eq hn, Option.bind_some, if_pos (by omega), if_pos (by (try simp only [ByteArray.size_append, sz_mk, List.size_toArray, List.length_cons, List.length_nil]); omega)]
      · simp [txt_mk, txt_num, txt_append]
      · simp only [ByteArray.size_append, sz_mk, List.size_toArray, List.length_cons, List.length_nil]; omega
  simp only [impl_cellText.f]
  by_cases hc : op = 8
  · obtain ⟨t, e, h⟩ := key false (by simp [hc])
    exact ⟨t, Ev.ite_pos hc e, h⟩
  · obtain ⟨t, e, h⟩ := key (decide (a ≥ 0)) (by simp [hc]; )
    exact ⟨t, Ev.ite_neg hc e, h⟩
theorem impl_StepText_ev (op r a b n : Int) : Ev (fun k => impl_StepText.f k op r a b n) (stepText op r a b n) := by
  simp only [impl_StepText.f]
  refine Ev.bind (impl_StepOk_ev ..) ?_
  unfold stepText
  by_cases h : stepOk op r a b n 800 = true
  · refine Ev.ite_pos h ?_
    rw [if_pos h]
    obtain ⟨_, hr, ha, hb, hn, _⟩ := step_in h
    have sr := num_size hr
    have sa := num_size ha
    have sb := num_size hb
    have sn := num_size hn
    obtain ⟨t3, e3, q3, s3⟩ := impl_threeText_eq op r a b n hr ha hb
    obtain ⟨tc, ec, qc, sc⟩ := impl_cellText_ev op r a b n ha hn
    have sz : ∀ {p : Prop} [Decidable p] {g : Nat → Option ByteArray} {x : ByteArray}, p → Ev g x → Ev (fun k => if p then g k else none) x := fun hp hg => Ev.ite_pos hp hg
    have q3' : ∀ x : ByteArray, ((x ++ regT r) ++ regT a) ++ regT b = x ++ ((⟨#[32]⟩ : ByteArray) ++ t3) := by
      intro x
      rw [q3]
      simp only [ByteArray.append_assoc]
    obtain ⟨l3, rfl⟩ : ∃ l, t3 = txt l := ⟨t3.data.toList, rfl⟩
    obtain ⟨lc, rfl⟩ : ∃ l, tc = txt l := ⟨tc.data.toList, rfl⟩
    have fin : ∀ {g : Nat → Option ByteArray} {x y : ByteArray}, Ev g x → x = y → Ev g y := fun e h => h ▸ e
    simp only [impl_reg_eq hr, impl_reg_eq ha, impl_reg_eq hb, impl_digits_eq hn, Option.bind_some]
    unfold stepBody
    rcases op_cases op with rfl | rfl | rfl | rfl | rfl | rfl | rfl | rfl | rfl | rfl | rfl | rfl | rfl | h'
    case inr.inr.inr.inr.inr.inr.inr.inr.inr.inr.inr.inr.inr => omega
    all_goals
      simp (decide := true) only [if_true, if_false, e3, Option.bind_some, ← qc]
      refine fin (x := ?_) ?_ ?_
      rotate_left
      · repeat' first
          | with_reducible exact Ev.now _
          | (with_reducible refine Ev.bind ec ?_)
          | (with_reducible refine sz (by (try simp only [ByteArray.size_append, sz_mk, List.size_toArray, List.length_cons, List.length_nil]); omega) ?_)
      · first
          | rfl
          | (simp [regT, txt_mk, txt_num, txt_append]; done)
          | (rw [q3']; simp [txt_mk, txt_append]; done)
  · refine Ev.ite_neg h ?_
    rw [if_neg h]
    exact Ev.now _
def codeLines (s : ByteArray) : List S25 → ByteArray
  | [] => s
  | x :: l => codeLines (s ++ (stepText x.f0 x.f1 x.f2 x.f3 x.f4 ++ (⟨#[10]⟩ : ByteArray))) l
def codeText (l : List S25) : ByteArray := if codeOk l = true then codeLines (⟨#[]⟩ : ByteArray) l else (⟨#[]⟩ : ByteArray)
theorem stepText_size (op r a b n : Int) : (stepText op r a b n).size ≤ 200 := by
  unfold stepText
  by_cases h : stepOk op r a b n 800 = true
  · rw [if_pos h]
    obtain ⟨_, hr, ha, hb, hn, _⟩ := step_in h
    have sr := regT_size hr
    have sa := regT_size ha
    have sb := regT_size hb
    have sn := num_size hn
    have sc := cellT_size (op := op) ha hn
    unfold stepBody
    rcases op_cases op with rfl | rfl | rfl | rfl | rfl | rfl | rfl | rfl | rfl | rfl | rfl | rfl | rfl | h'
    case inr.inr.inr.inr.inr.inr.inr.inr.inr.inr.inr.inr.inr => omega
    all_goals
      simp (decide := true) only [if_true, if_false, ByteArray.size_append, sz_mk, List.size_toArray, List.length_cons, List.length_nil]
      try omega
  · rw [if_neg h]
    show 0 ≤ 200
    omega
theorem stepLine_size (x : S25) : (stepText x.f0 x.f1 x.f2 x.f3 x.f4 ++ (⟨#[10]⟩ : ByteArray)).size = (stepText x.f0 x.f1 x.f2 x.f3 x.f4).size + 1 := by
  rw [ByteArray.size_append]; rfl
theorem impl_CodeText_l0 (l : List S25) (hl : l.length ≤ 1000) : ∀ d (j : Nat) (s : ByteArray), j + d = l.length → s.size + 201 * d ≤ 1000000000 → Ev (fun k => impl_CodeText.l0 k s l (l.length : Int) (j : Int)) (codeLines s (l.drop j)) := by
  intro d
  induction d with
  | zero =>
    intro j s hj hs
    obtain rfl : j = l.length := by omega
    rw [List.drop_length, codeLines]
    exact Ev.one fun k => by rw [impl_CodeText.l0, if_neg (by omega)]
  | succ d ih =>
    intro j s hj hs
    have h : j < l.length := by omega
    rw [List.drop_eq_getElem_cons h, codeLines]
    have h2 := stepText_size l[j].f0 l[j].f1 l[j].f2 l[j].f3 l[j].f4
    have h3 := stepLine_size l[j]
    refine Ev.step (fun k => by rw [impl_CodeText.l0, if_pos (by omega), if_pos (by omega), if_pos (by omega), rd_step l j h]) (Ev.bind (impl_StepText_ev ..) ?_)
    refine Ev.ite_pos (by omega) (Ev.ite_pos (by omega) ?_)
    rw [wrapS h (by omega)]
    exact ih (j + 1) _ (by omega) (by rw [ByteArray.size_append]; omega)
theorem spec_CodeText_l0 (l : List S25) (hl : l.length ≤ 1000) (ho : codeOk l = true) : ∀ d (j : Nat) (s : ByteArray), j + d = l.length → s.size + 201 * d ≤ 1000000000 → Ev (fun k => spec_CodeText.l0 k l s (j : Int)) (codeLines s (l.drop j)) := by
  intro d
  induction d with
  | zero =>
    intro j s hj hs
    obtain rfl : j = l.length := by omega
    rw [List.drop_length, codeLines]
    exact Ev.one fun k => by rw [spec_CodeText.l0, if_neg (by omega)]
  | succ d ih =>
    intro j s hj hs
    have h : j < l.length := by omega
    rw [List.drop_eq_getElem_cons h, codeLines]
    have h2 := stepText_size l[j].f0 l[j].f1 l[j].f2 l[j].f3 l[j].f4
    have h3 := stepLine_size l[j]
    refine Ev.step (fun k => by rw [spec_CodeText.l0, if_pos (by omega)]) (Ev.bind (spec_CodeOk_ev l (by omega)) ?_)
    refine Ev.ite_pos ho (Ev.ite_pos (by omega) ?_)
    rw [rd_step l j h]
    refine Ev.bind (spec_StepText_ev ..) ?_
    refine Ev.ite_pos (by omega) (Ev.ite_pos (by rw [ByteArray.size_append]; omega) ?_)
    rw [wrapS h (by omega), ByteArray.append_assoc]
    exact ih (j + 1) _ (by omega) (by rw [ByteArray.size_append]; omega)
theorem code_len {l : List S25} (h : codeOk l = true) : l.length ≤ 800 := by
  unfold codeOk inn at h
  simp only [Bool.and_eq_true, decide_eq_true_eq] at h
  have := h.1.2
  omega
theorem impl_CodeText_ev (l : List S25) (hl : l.length ≤ 1048576) : Ev (fun k => impl_CodeText.f k l) (codeText l) := by
  simp only [impl_CodeText.f]
  refine Ev.bind (impl_CodeOk_ev l hl) ?_
  unfold codeText
  by_cases h : codeOk l = true
  · refine Ev.ite_pos h ?_
    rw [if_pos h]
    have := code_len h
    exact impl_CodeText_l0 l (by omega) l.length 0 _ (by omega) (by show 0 + _ ≤ _; omega)
  · refine Ev.ite_neg h ?_
    rw [if_neg h]
    exact Ev.now _
theorem spec_CodeText_ev (l : List S25) (hl : l.length ≤ 1048576) : Ev (fun k => spec_CodeText.f k l) (codeText l) := by
  simp only [spec_CodeText.f]
  unfold codeText
  by_cases h : codeOk l = true
  · rw [if_pos h]
    have := code_len h
    exact spec_CodeText_l0 l (by omega) h l.length 0 _ (by omega) (by show 0 + _ ≤ _; omega)
  · rw [if_neg h]
    by_cases hn : (0 : Int) < (l.length : Int)
    · refine Ev.step (fun k => by rw [spec_CodeText.l0, if_pos hn]) (Ev.bind (spec_CodeOk_ev l (by omega)) ?_)
      exact Ev.ite_neg h (Ev.now _)
    · exact Ev.one fun k => by rw [spec_CodeText.l0, if_neg hn]
def blanks (s : ByteArray) : List ByteArray → ByteArray
  | [] => s
  | x :: l => blanks (s ++ ((⟨#[32]⟩ : ByteArray) ++ x)) l
def joined : List ByteArray → ByteArray
  | [] => (⟨#[]⟩ : ByteArray)
  | x :: l => blanks x l
theorem blanks_eq : ∀ (l : List ByteArray) (s : ByteArray), (⟨(s.data.toList ++ Lib.joinTail [32] (l.map (·.data.toList))).toArray⟩ : ByteArray) = blanks s l
  | [], s => by
    apply ByteArray.ext
    simp [Lib.joinTail, blanks]
  | x :: l, s => by
    rw [blanks, ← blanks_eq l]
    apply ByteArray.ext
    simp [Lib.joinTail, ByteArray.data_append]
theorem blank_size (x : ByteArray) : ((⟨#[32]⟩ : ByteArray) ++ x).size = x.size + 1 := by
  rw [ByteArray.size_append]
  show 1 + x.size = x.size + 1
  omega
theorem blanks_size : ∀ (l : List ByteArray) (s : ByteArray), (∀ x ∈ l, x.size ≤ 100) → (blanks s l).size ≤ s.size + 101 * l.length ∧ s.size ≤ (blanks s l).size
  | [], s, _ => by simp [blanks]
  | x :: l, s, h => by
    have h1 := blanks_size l (s ++ ((⟨#[32]⟩ : ByteArray) ++ x)) (fun y hy => h y (List.mem_cons_of_mem _ hy))
    have h2 := h x List.mem_cons_self
    have h3 := blank_size x
    rw [ByteArray.size_append] at h1
    rw [blanks, List.length_cons]
    omega
theorem joined_size (l : List ByteArray) (h : ∀ x ∈ l, x.size ≤ 100) : (joined l).size ≤ 101 * l.length := by
  cases l with
  | nil => show 0 ≤ _; omega
  | cons x l =>
    have h1 := (blanks_size l x (fun y hy => h y (List.mem_cons_of_mem _ hy))).1
    have h2 := h x List.mem_cons_self
    rw [joined, List.length_cons]
    omega
theorem impl_Join_eq (l : List ByteArray) (hl : l.length ≤ 1048576) (h : ∀ x ∈ l, x.size ≤ 100) : strings_Join.f l (⟨#[32]⟩ : ByteArray) = some (joined l) := by
  have e : (⟨(Lib.join (l.map (·.data.toList)) [32]).toArray⟩ : ByteArray) = joined l := by
    cases l with
    | nil => rfl
    | cons x l =>
      simp only [List.map_cons, Lib.join_cons]
      exact blanks_eq l x
  have hs := joined_size l h
  have hn : (Lib.join (l.map (·.data.toList)) [32]).length = (joined l).size := by
    rw [← e]
    show _ = Array.size _
    rw [List.size_toArray]
  unfold strings_Join.f Tab.joinF
  show (if l.length ≤ 140737488355328 ∧ (Lib.join (l.map (·.data.toList)) [32]).length ≤ 140737488355328 then some (⟨(Lib.join (l.map (·.data.toList)) [32]).toArray⟩ : ByteArray) else none) = _
  rw [if_pos ⟨by omega, by omega⟩, e]
theorem take_next {α β : Type} (f : α → β) (l : List α) (j : Nat) (h : j < l.length) : (l.take j).map f ++ [f l[j]] = (l.take (j + 1)).map f := by
  rw [List.take_add_one, List.map_append, List.getElem?_eq_getElem h]
  rfl
theorem rd_note (l : List S61) (j : Nat) (h : j < l.length) : rd_T61 l (j : Int) = l[j] := by simp [rd_T61, List.getD_eq_getElem?_getD, h]
def noteT (x : S61) : ByteArray := num x.f0 ++ (⟨#[58]⟩ : ByteArray) ++ num x.f1
def traceT (l : List S61) : ByteArray := if l = [] then (⟨#[45]⟩ : ByteArray) else joined (l.map noteT)
def In2 (x : S61) : Prop := In64 x.f0 ∧ In64 x.f1
theorem note_size {x : S61} (h : In2 x) : (noteT x).size ≤ 50 ∧ 1 ≤ (noteT x).size := by
  have h1 := num_size h.1
  have h2 := num_size h.2
  unfold noteT
  rw [ByteArray.size_append, ByteArray.size_append]
  have : (⟨#[58]⟩ : ByteArray).size = 1 := rfl
  omega
theorem notes_size {l : List S61} (hw : ∀ z ∈ l, In2 z) : ∀ x ∈ l.map noteT, x.size ≤ 100 := by
  intro x hx
  obtain ⟨z, hz, rfl⟩ := List.mem_map.mp hx
  have := (note_size (hw z hz)).1
  omega
theorem impl_TraceText_l0 (l : List S61) (hl : l.length ≤ 1048576) (hw : ∀ z ∈ l, In2 z) : ∀ d (j : Nat), j + d = l.length → Ev (fun k => impl_TraceText.l0 k ((l.take j).map noteT) l (l.length : Int) (j : Int)) (joined (l.map noteT)) := by
  intro d
  induction d with
  | zero =>
    intro j hj
    obtain rfl : j = l.length := by omega
    rw [List.take_length]
    exact Ev.one fun k => by rw [impl_TraceText.l0, if_neg (by omega), impl_Join_eq _ (by simpa using hl) (notes_size hw), Option.bind_some]
  | succ d ih =>
    intro j hj
    have h : j < l.length := by omega
    have hz := hw l[j] (List.getElem_mem h)
    have s1 := num_size hz.1
    have s2 := num_size hz.2
    have s3 : (num l[j].f0 ++ (⟨#[58]⟩ : ByteArray)).size = (num l[j].f0).size + 1 := by rw [ByteArray.size_append]; rfl
    refine Ev.step (fun k => by rw [impl_TraceText.l0, if_pos (by omega), if_pos (by omega), if_pos (by omega), rd_note l j h, impl_digits_eq hz.1, Option.bind_some, if_pos (by omega), impl_digits_eq hz.2, Option.bind_some, if_pos (by omega), if_pos (by simp; omega), wrapS h (by omega)]) ?_
    refine Ev.congr (fun k => ?_) (ih (j + 1) (by omega))
    rw [← take_next noteT l j h]
    rfl
theorem impl_TraceText_ev (l : List S61) (hl : l.length ≤ 1048576) (hw : ∀ z ∈ l, In2 z) : Ev (fun k => impl_TraceText.f k l) (traceT l) := by
  simp only [impl_TraceText.f]
  unfold traceT
  by_cases h : l = []
  · subst h
    exact Ev.ite_pos rfl (by rw [if_pos rfl]; exact Ev.now _)
  · have : l.length ≠ 0 := by simpa using h
    rw [if_neg h]
    exact Ev.ite_neg (by omega) (impl_TraceText_l0 l hl hw l.length 0 (by omega))
def endT (s : ByteArray) : ByteArray := if s.size = 0 then (⟨#[45]⟩ : ByteArray) else s
theorem ba_list (s : ByteArray) : s.toList = [] ↔ s.size = 0 := by
  rw [ByteArray.toList_eq, ← List.length_eq_zero_iff, Array.length_toList]
  rfl
theorem end_ev (s : ByteArray) : (if s.toList = ([] : List UInt8) then some (⟨#[45]⟩ : ByteArray) else some s) = some (endT s) := by
  unfold endT
  by_cases h : s.size = 0
  · rw [if_pos ((ba_list s).mpr h), if_pos h]
  · rw [if_neg (fun h' => h ((ba_list s).mp h')), if_neg h]
theorem spec_TraceText_l0 (l : List S61) (hl : l.length ≤ 1048576) (hw : ∀ z ∈ l, In2 z) : ∀ d (j : Nat) (s : ByteArray), 0 < j → j + d = l.length → s.size + 101 * d ≤ 1000000000 → Ev (fun k => spec_TraceText.l0 k l s (j : Int)) (endT (blanks s ((l.drop j).map noteT))) := by
  intro d
  induction d with
  | zero =>
    intro j s h0 hj hs
    obtain rfl : j = l.length := by omega
    rw [List.drop_length, List.map_nil, blanks]
    exact Ev.one fun k => by rw [spec_TraceText.l0, if_neg (by omega), end_ev]
  | succ d ih =>
    intro j s h0 hj hs
    have h : j < l.length := by omega
    have hz := hw l[j] (List.getElem_mem h)
    have s1 := num_size hz.1
    have s2 := num_size hz.2
    have s0 := note_size hz
    have s3 : (s ++ (⟨#[32]⟩ : ByteArray)).size = s.size + 1 := by rw [ByteArray.size_append]; rfl
    have s4 : ((s ++ (⟨#[32]⟩ : ByteArray)) ++ num l[j].f0).size = s.size + 1 + (num l[j].f0).size := by rw [ByteArray.size_append, s3]
    have s5 : (((s ++ (⟨#[32]⟩ : ByteArray)) ++ num l[j].f0) ++ (⟨#[58]⟩ : ByteArray)).size = s.size + 1 + (num l[j].f0).size + 1 := by rw [ByteArray.size_append, s4]; rfl
    rw [List.drop_eq_getElem_cons h, List.map_cons, blanks]
    refine Ev.step (fun k => by rw [spec_TraceText.l0, if_pos (by omega), if_pos (by omega), if_pos (by omega), if_pos (by omega), rd_note l j h]) ?_
    refine Ev.bind (spec_l2Digits_ev hz.1) ?_
    refine Ev.ite_pos (by omega) (Ev.ite_pos (by omega) ?_)
    refine Ev.bind (spec_l2Digits_ev hz.2) ?_
    refine Ev.ite_pos (by omega) ?_
    rw [wrapS h (by omega)]
    refine Ev.congr (fun k => ?_) (ih (j + 1) (s ++ ((⟨#[32]⟩ : ByteArray) ++ noteT l[j])) (by omega) (by omega) (by rw [ByteArray.size_append, blank_size]; omega))
    unfold noteT
    simp only [ByteArray.append_assoc]
theorem spec_TraceText_ev (l : List S61) (hl : l.length ≤ 1048576) (hw : ∀ z ∈ l, In2 z) : Ev (fun k => spec_TraceText.f k l) (traceT l) := by
  simp only [spec_TraceText.f]
  cases l with
  | nil => exact Ev.one fun k => by rw [spec_TraceText.l0, if_neg (by simp), end_ev]; rfl
  | cons x l =>
    have hz := hw x List.mem_cons_self
    have s1 := num_size hz.1
    have s2 := num_size hz.2
    have s0 := note_size hz
    have s3 : (num x.f0 ++ (⟨#[58]⟩ : ByteArray)).size = (num x.f0).size + 1 := by rw [ByteArray.size_append]; rfl
    have e : ∀ y : ByteArray, (⟨#[]⟩ : ByteArray) ++ y = y := fun y => ByteArray.empty_append
    have er : rd_T61 (x :: l) ((0 : Nat) : Int) = x := rd_note (x :: l) 0 (by simp)
    have hv : traceT (x :: l) = endT (blanks (noteT x) (((x :: l).drop 1).map noteT)) := by
      unfold traceT endT
      have hb := (blanks_size (l.map noteT) (noteT x) (notes_size (fun z hz => hw z (List.mem_cons_of_mem _ hz)))).2
      show _ = if (blanks (noteT x) (l.map noteT)).size = 0 then _ else _
      rw [if_neg (by simp), if_neg (by omega)]
      rfl
    rw [hv]
    refine Ev.step (fun k => by rw [spec_TraceText.l0, if_pos (by simp), if_neg (by omega), if_pos (by omega), show rd_T61 (x :: l) 0 = x from er]) ?_
    refine Ev.bind (spec_l2Digits_ev hz.1) ?_
    rw [e]
    refine Ev.ite_pos (by show 0 + _ ≤ _; omega) (Ev.ite_pos (by omega) ?_)
    refine Ev.bind (spec_l2Digits_ev hz.2) ?_
    refine Ev.ite_pos (by rw [s3]; omega) ?_
    rw [show wrap64 (0 + 1) = ((1 : Nat) : Int) from wrap_in (by omega) (by omega)]
    exact spec_TraceText_l0 (x :: l) hl hw l.length 1 (noteT x) (by omega) (by simp; omega) (by simp at hl; omega)
def chanOk (c : Int) (l : List Int) : Bool := inn c 1 4 && decide ((l.length : Int) ≤ c)
theorem spec_ChanOk_eq (c : Int) (l : List Int) (cl : Bool) : spec_ChanOk.f c l cl = some (chanOk c l) := by
  unfold spec_ChanOk.f chanOk
  rw [spec_l1In_eq, Option.bind_some]
  cases inn c 1 4 <;> simp
theorem impl_ChanOk_eq (c : Int) (l : List Int) (cl : Bool) : impl_ChanOk.f c l cl = some (chanOk c l) := by
  unfold impl_ChanOk.f chanOk
  rw [impl_within_eq, Option.bind_some]
  cases inn c 1 4 <;> simp
def chanT (c : Int) (l : List Int) (cl : Bool) : ByteArray :=
  let s := (⟨#[91]⟩ : ByteArray) ++ joined (l.map num) ++ (⟨#[93]⟩ : ByteArray) ++ num (c - (l.length : Int))
  if cl = true then s ++ (⟨#[33]⟩ : ByteArray) else s
def chanText (c : Int) (l : List Int) (cl : Bool) : ByteArray := if chanOk c l = true then chanT c l cl else (⟨#[]⟩ : ByteArray)
theorem chan_len {c : Int} {l : List Int} (h : chanOk c l = true) : l.length ≤ 4 ∧ 1 ≤ c ∧ c ≤ 4 := by
  unfold chanOk inn at h
  simp only [Bool.and_eq_true, decide_eq_true_eq] at h
  omega
theorem nums_size {l : List Int} (hw : ∀ z ∈ l, In64 z) : ∀ x ∈ l.map num, x.size ≤ 100 := by
  intro x hx
  obtain ⟨z, hz, rfl⟩ := List.mem_map.mp hx
  have := num_size (hw z hz)
  omega
theorem impl_numbersText_l0 (l : List Int) (hl : l.length ≤ 1048576) (hw : ∀ z ∈ l, In64 z) : ∀ d (j : Nat), j + d = l.length → Ev (fun k => impl_numbersText.l0 k ((l.take j).map num) l (l.length : Int) (j : Int)) (joined (l.map num)) := by
  intro d
  induction d with
  | zero =>
    intro j hj
    obtain rfl : j = l.length := by omega
    rw [List.take_length]
    exact Ev.one fun k => by rw [impl_numbersText.l0, if_neg (by omega), impl_Join_eq _ (by simpa using hl) (nums_size hw), Option.bind_some]
  | succ d ih =>
    intro j hj
    have h : j < l.length := by omega
    have hz := hw l[j] (List.getElem_mem h)
    have er : rd l (j : Int) = l[j] := by simp [rd, rdOf, List.getD_eq_getElem?_getD, h]
    refine Ev.step (fun k => by rw [impl_numbersText.l0, if_pos (by omega), if_pos (by omega), if_pos (by omega), er, impl_digits_eq hz, Option.bind_some, if_pos (by simp; omega), wrapS h (by omega)]) ?_
    refine Ev.congr (fun k => ?_) (ih (j + 1) (by omega))
    rw [← take_next num l j h]
theorem impl_numbersText_ev (l : List Int) (hl : l.length ≤ 1048576) (hw : ∀ z ∈ l, In64 z) : Ev (fun k => impl_numbersText.f k l) (joined (l.map num)) := by
  simp only [impl_numbersText.f]
  exact impl_numbersText_l0 l hl hw l.length 0 (by omega)
theorem impl_ChanText_ev (c : Int) (l : List Int) (cl : Bool) (hl : l.length ≤ 1048576) (hw : ∀ z ∈ l, In64 z) : Ev (fun k => impl_ChanText.f k c l cl) (chanText c l cl) := by
  simp only [impl_ChanText.f]
  simp only [impl_ChanOk_eq c l cl, Option.bind_some]
  unfold chanText
  by_cases h : chanOk c l = true
  · obtain ⟨h1, h2, h3⟩ := chan_len h
    rw [if_pos h]
    refine Ev.ite_pos h ?_
    have hs := joined_size (l.map num) (nums_size hw)
    rw [List.length_map] at hs
    have hn : In64 (c - (l.length : Int)) := ⟨by omega, by omega⟩
    have hd := num_size hn
    have s1 : ((⟨#[91]⟩ : ByteArray) ++ joined (l.map num)).size = 1 + (joined (l.map num)).size := by rw [ByteArray.size_append]; rfl
    have s2 : ((⟨#[91]⟩ : ByteArray) ++ joined (l.map num) ++ (⟨#[93]⟩ : ByteArray)).size = 1 + (joined (l.map num)).size + 1 := by rw [ByteArray.size_append, s1]; rfl
    refine Ev.bind (impl_numbersText_ev l hl hw) ?_
    refine Ev.ite_pos (by omega) (Ev.ite_pos (by omega) ?_)
    simp only [wrap_in (n := c - (l.length : Int)) (by omega) (by omega), impl_digits_eq hn, Option.bind_some]
    refine Ev.ite_pos (by omega) ?_
    unfold chanT
    cases cl with
    | true => exact Ev.ite_pos rfl (Ev.ite_pos (by rw [ByteArray.size_append, s2]; omega) (Ev.now _))
    | false => exact Ev.ite_neg (by simp) (Ev.now _)
  · rw [if_neg h]
    exact Ev.ite_neg h (Ev.now _)
theorem spec_ChanText_l0 (c : Int) (l : List Int) (cl : Bool) (hl : l.length ≤ 4) (hc : 1 ≤ c ∧ c ≤ 4) (hw : ∀ z ∈ l, In64 z) : ∀ d (j : Nat) (s : ByteArray), 0 < j ∨ l = [] → j + d = l.length → s.size + 101 * d ≤ 1000000 → Ev (fun k => spec_ChanText.l0 k s (j : Int) c l cl) (let t := blanks s ((l.drop j).map num) ++ (⟨#[93]⟩ : ByteArray) ++ num (c - (l.length : Int)); if cl = true then t ++ (⟨#[33]⟩ : ByteArray) else t) := by
  intro d
  induction d with
  | zero =>
    intro j s h0 hj hs
    obtain rfl : j = l.length := by omega
    rw [List.drop_length, List.map_nil, blanks]
    have hn : In64 (c - (l.length : Int)) := ⟨by omega, by omega⟩
    have hd := num_size hn
    have s1 : (s ++ (⟨#[93]⟩ : ByteArray)).size = s.size + 1 := by rw [ByteArray.size_append]; rfl
    refine Ev.step (fun k => by rw [spec_ChanText.l0, if_neg (by omega), if_pos (by omega), wrap_in (n := c - (l.length : Int)) (by omega) (by omega)]) ?_
    refine Ev.bind (spec_l2Digits_ev hn) ?_
    refine Ev.ite_pos (by omega) ?_
    cases cl with
    | true => exact Ev.ite_pos rfl (Ev.ite_pos (by rw [ByteArray.size_append, s1]; omega) (Ev.now _))
    | false => exact Ev.ite_neg (by simp) (Ev.now _)
  | succ d ih =>
    intro j s h0 hj hs
    have h : j < l.length := by omega
    have hp : 0 < j := by
      rcases h0 with h0 | h0
      · exact h0
      · subst h0; simp at h
    have hz := hw l[j] (List.getElem_mem h)
    have s1 := num_size hz
    have s3 : (s ++ (⟨#[32]⟩ : ByteArray)).size = s.size + 1 := by rw [ByteArray.size_append]; rfl
    have er : rd l (j : Int) = l[j] := by simp [rd, rdOf, List.getD_eq_getElem?_getD, h]
    rw [List.drop_eq_getElem_cons h, List.map_cons, blanks]
    refine Ev.step (fun k => by rw [spec_ChanText.l0, if_pos (by omega), if_pos (by omega), if_pos (by omega), if_pos (by omega), er]) ?_
    refine Ev.bind (spec_l2Digits_ev hz) ?_
    refine Ev.ite_pos (by omega) ?_
    rw [wrapS h (by omega), ByteArray.append_assoc]
    exact ih (j + 1) (s ++ ((⟨#[32]⟩ : ByteArray) ++ num l[j])) (.inl (by omega)) (by omega) (by rw [ByteArray.size_append, blank_size]; omega)
theorem blanks_append : ∀ (l : List ByteArray) (s t : ByteArray), blanks (s ++ t) l = s ++ blanks t l
  | [], s, t => rfl
  | x :: l, s, t => by rw [blanks, blanks, ByteArray.append_assoc, blanks_append l]
theorem spec_ChanText_ev (c : Int) (l : List Int) (cl : Bool) (hl : l.length ≤ 1048576) (hw : ∀ z ∈ l, In64 z) : Ev (fun k => spec_ChanText.f k c l cl) (chanText c l cl) := by
  simp only [spec_ChanText.f]
  simp only [spec_ChanOk_eq c l cl, Option.bind_some]
  unfold chanText
  by_cases h : chanOk c l = true
  case neg =>
    rw [if_neg h]
    exact Ev.ite_neg h (Ev.now _)
  obtain ⟨h1, h2⟩ := chan_len h
  rw [if_pos h]
  refine Ev.ite_pos h ?_
  cases l with
  | nil =>
    have := spec_ChanText_l0 c [] cl (by simp) h2 (by simp) 0 0 (⟨#[91]⟩ : ByteArray) (.inr rfl) (by simp) (by show 1 + _ ≤ _; omega)
    have e : (⟨#[91]⟩ : ByteArray) ++ joined ([] : List ByteArray) = (⟨#[91]⟩ : ByteArray) := ByteArray.append_empty
    unfold chanT
    simp only [List.map_nil, e]
    exact this
  | cons x l =>
    have hz := hw x List.mem_cons_self
    have s1 := num_size hz
    have er : rd (x :: l) ((0 : Nat) : Int) = x := by simp [rd, rdOf]
    refine Ev.step (fun k => by rw [spec_ChanText.l0, if_pos (by simp), if_neg (by omega), if_pos (by omega), show rd (x :: l) 0 = x from er]) ?_
    refine Ev.bind (spec_l2Digits_ev hz) ?_
    refine Ev.ite_pos (by show 1 + _ ≤ _; omega) ?_
    rw [show wrap64 (0 + 1) = ((1 : Nat) : Int) from wrap_in (by omega) (by omega)]
    have := spec_ChanText_l0 c (x :: l) cl h1 h2 hw l.length 1 ((⟨#[91]⟩ : ByteArray) ++ num x) (.inl (by omega)) (by simp; omega) (by rw [ByteArray.size_append]; simp at h1; show 1 + _ + _ ≤ _; omega)
    unfold chanT
    rw [blanks_append] at this
    exact this
theorem size_data (s : ByteArray) : s.size = s.data.toList.length := by rw [Array.length_toList]; rfl
theorem bt_data (s : ByteArray) (i : Nat) (h : i < s.data.toList.length) : bt s (i : Int) = (s.data.toList[i].toNat : Int) := by
  have h' : i < s.size := by rw [size_data]; exact h
  unfold bt
  rw [dif_pos (by simpa using h')]
  rfl
theorem is_nl (c : UInt8) : ((c.toNat : Int) = 10) ↔ c = 10 := by
  constructor
  · intro h
    apply UInt8.toNat_inj.mp
    have : c.toNat = 10 := by omega
    exact this
  · rintro rfl
    rfl
def nls (s : ByteArray) : Nat := s.data.toList.count 10
theorem nls_append (a b : ByteArray) : nls (a ++ b) = nls a + nls b := by
  unfold nls
  rw [show (a ++ b).data.toList = a.data.toList ++ b.data.toList by simp [ByteArray.data_append], List.count_append]
theorem dec_nl (u : Nat) : (Lib.decDigits u).count 10 = 0 := by
  induction u using Nat.strongRecOn with
  | ind u ih =>
    have key : ∀ d, d < 10 → (UInt8.ofNat (48 + d)) ≠ 10 := by
      intro d hd e
      have e2 : (UInt8.ofNat (48 + d)).toNat = (10 : UInt8).toNat := by rw [e]
      rw [UInt8.toNat_ofNat'] at e2
      have : (10 : UInt8).toNat = 10 := rfl
      omega
    rw [Lib.decDigits]
    by_cases h : u < 10
    · rw [dif_pos h]
      have := key u h
      rw [List.count_cons, List.count_nil, beq_eq_false_iff_ne.mpr this]
      rfl
    · rw [dif_neg h, List.count_append, ih (u / 10) (by omega)]
      have := key (u % 10) (by omega)
      rw [List.count_cons, List.count_nil, beq_eq_false_iff_ne.mpr this]
      rfl
theorem nls_num (n : Int) : nls (num n) = 0 := by
  show (Lib.itoa n).count 10 = 0
  unfold Lib.itoa
  split
  · rw [List.count_cons, dec_nl]
    decide
  · exact dec_nl _
theorem nls_reg (r : Int) : nls (regT r) = 0 := by
  unfold regT
  rw [nls_append, nls_num]
  decide
theorem nls_cell (op a n : Int) : nls (cellT op a n) = 0 := by
  unfold cellT
  split
  · rw [nls_append, nls_append, nls_num]
    decide
  · rw [nls_append, nls_append, nls_append, nls_append, nls_num, nls_num]
    decide
theorem nls_body (op r a b n : Int) : nls (stepBody op r a b n) = 0 := by
  have e0 : ∀ x, nls (regT x) = 0 := nls_reg
  unfold stepBody
  by_cases h1 : op = 1
  · rw [if_pos h1]
    (try simp only [nls_append, nls_reg, nls_cell, nls_num])
    decide
  rw [if_neg h1]
  by_cases h2 : op = 2
  · rw [if_pos h2]
    (try simp only [nls_append, nls_reg, nls_cell, nls_num])
    decide
  rw [if_neg h2]
  by_cases h3 : op = 3
  · rw [if_pos h3]
    (try simp only [nls_append, nls_reg, nls_cell, nls_num])
    decide
  rw [if_neg h3]
  by_cases h4 : op = 4
  · rw [if_pos h4]
    (try simp only [nls_append, nls_reg, nls_cell, nls_num])
    decide
  rw [if_neg h4]
  by_cases h5 : op = 5
  · rw [if_pos h5]
    (try simp only [nls_append, nls_reg, nls_cell, nls_num])
    decide
  rw [if_neg h5]
  by_cases h6 : op = 6
  · rw [if_pos h6]
    (try simp only [nls_append, nls_reg, nls_cell, nls_num])
    decide
  rw [if_neg h6]
  by_cases h7 : op = 7
  · rw [if_pos h7]
    (try simp only [nls_append, nls_reg, nls_cell, nls_num])
    decide
  rw [if_neg h7]
  by_cases h8 : op = 8
  · rw [if_pos h8]
    (try simp only [nls_append, nls_reg, nls_cell, nls_num])
    decide
  rw [if_neg h8]
  by_cases h9 : op = 9
  · rw [if_pos h9]
    (try simp only [nls_append, nls_reg, nls_cell, nls_num])
    decide
  rw [if_neg h9]
  by_cases h10 : op = 10
  · rw [if_pos h10]
    (try simp only [nls_append, nls_reg, nls_cell, nls_num])
    decide
  rw [if_neg h10]
  by_cases h11 : op = 11
  · rw [if_pos h11]
    (try simp only [nls_append, nls_reg, nls_cell, nls_num])
    decide
  rw [if_neg h11]
  by_cases h12 : op = 12
  · rw [if_pos h12]
    (try simp only [nls_append, nls_reg, nls_cell, nls_num])
    decide
  rw [if_neg h12]
  (try simp only [nls_append, nls_reg, nls_cell, nls_num])
  decide
theorem nls_step (op r a b n : Int) : nls (stepText op r a b n) = 0 := by
  unfold stepText
  split
  · exact nls_body ..
  · decide
theorem nls_lines : ∀ (l : List S25) (s : ByteArray), nls (codeLines s l) = nls s + l.length
  | [], s => by rw [codeLines]; rfl
  | x :: l, s => by
    rw [codeLines, nls_lines l, nls_append, nls_append, nls_step, List.length_cons]
    have : nls (⟨#[10]⟩ : ByteArray) = 1 := by decide
    omega
theorem toL_nil {s : ByteArray} : s.toList = ([] : List UInt8) ↔ s.size = 0 := by
  rw [ByteArray.toList_eq, ← List.length_eq_zero_iff, Array.length_toList]
  rfl
theorem body_pos (op r a b n : Int) : (stepBody op r a b n).size ≠ 0 := by
  unfold stepBody
  by_cases h1 : op = 1
  · rw [if_pos h1]
    simp [ByteArray.size_append, sz_mk, -ByteArray.size_eq_zero_iff]
  rw [if_neg h1]
  by_cases h2 : op = 2
  · rw [if_pos h2]
    simp [ByteArray.size_append, sz_mk, -ByteArray.size_eq_zero_iff]
  rw [if_neg h2]
  by_cases h3 : op = 3
  · rw [if_pos h3]
    simp [ByteArray.size_append, sz_mk, -ByteArray.size_eq_zero_iff]
  rw [if_neg h3]
  by_cases h4 : op = 4
  · rw [if_pos h4]
    simp [ByteArray.size_append, sz_mk, -ByteArray.size_eq_zero_iff]
  rw [if_neg h4]
  by_cases h5 : op = 5
  · rw [if_pos h5]
    simp [ByteArray.size_append, sz_mk, -ByteArray.size_eq_zero_iff]
  rw [if_neg h5]
  by_cases h6 : op = 6
  · rw [if_pos h6]
    simp [ByteArray.size_append, sz_mk, -ByteArray.size_eq_zero_iff]
  rw [if_neg h6]
  by_cases h7 : op = 7
  · rw [if_pos h7]
    simp [ByteArray.size_append, sz_mk, -ByteArray.size_eq_zero_iff]
  rw [if_neg h7]
  by_cases h8 : op = 8
  · rw [if_pos h8]
    simp [ByteArray.size_append, sz_mk, -ByteArray.size_eq_zero_iff]
  rw [if_neg h8]
  by_cases h9 : op = 9
  · rw [if_pos h9]
    simp [ByteArray.size_append, sz_mk, -ByteArray.size_eq_zero_iff]
  rw [if_neg h9]
  by_cases h10 : op = 10
  · rw [if_pos h10]
    simp [ByteArray.size_append, sz_mk, -ByteArray.size_eq_zero_iff]
  rw [if_neg h10]
  by_cases h11 : op = 11
  · rw [if_pos h11]
    simp [ByteArray.size_append, sz_mk, -ByteArray.size_eq_zero_iff]
  rw [if_neg h11]
  by_cases h12 : op = 12
  · rw [if_pos h12]
    simp [ByteArray.size_append, sz_mk, -ByteArray.size_eq_zero_iff]
  rw [if_neg h12]
  simp [ByteArray.size_append, sz_mk, -ByteArray.size_eq_zero_iff]
theorem stepText_ne (op r a b n : Int) : ((stepText op r a b n).toList != ([] : List UInt8)) = stepOk op r a b n 800 := by
  by_cases h : stepOk op r a b n 800 = true
  · rw [h, bne_iff_ne]
    intro e
    rw [toL_nil] at e
    rw [show stepText op r a b n = stepBody op r a b n from if_pos h] at e
    exact body_pos op r a b n e
  · rw [Bool.eq_false_iff.mpr h, show stepText op r a b n = (⟨#[]⟩ : ByteArray) from if_neg h]
    rw [show (⟨#[]⟩ : ByteArray).toList = ([] : List UInt8) from toL_nil.mpr rfl]
    rfl
theorem chanText_ne (c : Int) (l : List Int) (cl : Bool) : ((chanText c l cl).toList != ([] : List UInt8)) = chanOk c l := by
  by_cases h : chanOk c l = true
  · rw [h, bne_iff_ne]
    intro e
    rw [toL_nil, show chanText c l cl = chanT c l cl from if_pos h] at e
    unfold chanT at e
    dsimp only at e
    split at e
    all_goals
      simp only [ByteArray.size_append, sz_mk] at e
      simp at e
  · rw [Bool.eq_false_iff.mpr h, show chanText c l cl = (⟨#[]⟩ : ByteArray) from if_neg h]
    rw [show (⟨#[]⟩ : ByteArray).toList = ([] : List UInt8) from toL_nil.mpr rfl]
    rfl
theorem blanks_ge : ∀ (l : List ByteArray) (s : ByteArray), s.size ≤ (blanks s l).size
  | [], s => Nat.le_refl _
  | x :: l, s => by
    have := blanks_ge l (s ++ ((⟨#[32]⟩ : ByteArray) ++ x))
    rw [ByteArray.size_append] at this
    rw [blanks]
    omega
theorem traceT_ne (l : List S61) : (traceT l).toList ≠ ([] : List UInt8) := by
  intro e
  rw [toL_nil] at e
  unfold traceT at e
  cases l with
  | nil =>
    rw [if_pos rfl] at e
    exact absurd e (by decide)
  | cons x l =>
    rw [if_neg (by simp), List.map_cons, joined] at e
    have h1 := blanks_ge (l.map noteT) (noteT x)
    have h2 : 1 ≤ (noteT x).size := by
      unfold noteT
      simp only [ByteArray.size_append]
      have : (⟨#[58]⟩ : ByteArray).size = 1 := rfl
      omega
    omega
theorem codeText_end (l : List S25) : (codeOk l = true ∧ nls (codeText l) = l.length) ∨ (codeOk l = false ∧ (codeText l).toList = ([] : List UInt8) ∧ nls (codeText l) = 0) := by
  by_cases h : codeOk l = true
  · refine .inl ⟨h, ?_⟩
    rw [show codeText l = codeLines (⟨#[]⟩ : ByteArray) l from if_pos h, nls_lines]
    have : nls (⟨#[]⟩ : ByteArray) = 0 := by decide
    omega
  · refine .inr ⟨Bool.eq_false_iff.mpr h, ?_, ?_⟩
    · rw [show codeText l = (⟨#[]⟩ : ByteArray) from if_neg h]
      exact toL_nil.mpr rfl
    · rw [show codeText l = (⟨#[]⟩ : ByteArray) from if_neg h]
      decide
theorem codeText_size (l : List S25) (hl : l.length ≤ 16) : (codeText l).size ≤ 10000 := by
  have key : ∀ (l : List S25) (s : ByteArray), (codeLines s l).size ≤ s.size + 201 * l.length := by
    intro l
    induction l with
    | nil => intro s; rw [codeLines]; simp
    | cons x l ih =>
      intro s
      have := ih (s ++ (stepText x.f0 x.f1 x.f2 x.f3 x.f4 ++ (⟨#[10]⟩ : ByteArray)))
      have h2 := stepText_size x.f0 x.f1 x.f2 x.f3 x.f4
      rw [ByteArray.size_append, stepLine_size] at this
      rw [codeLines, List.length_cons]
      omega
  unfold codeText
  split
  · have := key l (⟨#[]⟩ : ByteArray)
    have e : (⟨#[]⟩ : ByteArray).size = 0 := rfl
    omega
  · show (0 : Nat) ≤ 10000
    omega
theorem w64_in (n : Int) : In64 (wrap64 n) := by
  unfold In64 wrap64
  omega
theorem drawTrace_de (code : List Int) (hc : code.length ≤ 1048576) : DE (fun k => spec_DrawTraceText.f k code) (fun r => r.length ≤ 7 ∧ ∀ z ∈ r, In2 z) := by
  simp only [spec_DrawTraceText.f]
  refine DE.bind (l1New_de code hc) ?_
  rintro ⟨b, i, h⟩ ⟨e, c⟩
  dsimp only at *
  subst e
  have key : ∀ d (j : Nat) i h (l : List S61), j + d = 7 → l.length = j → (∀ z ∈ l, In2 z) → Cur b i → DE (fun k => spec_DrawTraceText.l0 k l (j : Int) b i h) (fun r => r.length ≤ 7 ∧ ∀ z ∈ r, In2 z) := by
    intro d
    induction d with
    | zero =>
      intro j i h l hj hl hz c
      refine DE.step (fun k => by rw [spec_DrawTraceText.l0]) ?_
      refine DE.bind (l1Below_de _ _ _ _ c) ?_
      rintro ⟨n, _, _⟩ ⟨c2, n0, n1, _⟩
      dsimp only at *
      have n1' := n1 (by omega)
      exact DE.neg (by omega) (DE.now ⟨by omega, hz⟩)
    | succ d ih =>
      intro j i h l hj hl hz c
      refine DE.step (fun k => by rw [spec_DrawTraceText.l0]) ?_
      refine DE.bind (l1Below_de _ _ _ _ c) ?_
      rintro ⟨n, _, _⟩ ⟨c2, n0, n1, _⟩
      dsimp only at *
      refine DE.ite (fun _ => ?_) (fun _ => DE.now ⟨by omega, hz⟩)
      refine DE.bind (l1Below_de _ _ _ _ c2) ?_
      rintro ⟨who, _, _⟩ ⟨c3, w0, w1, _⟩
      dsimp only at *
      have w1' := w1 (by omega)
      refine DE.bind (l1PickInt_de _ _ _ _ (by simp) c3) ?_
      rintro ⟨x, _, _⟩ ⟨c4, hx⟩
      dsimp only at *
      refine DE.pos (by omega) ?_
      rw [wrapS (n := 99) (by omega) (by omega)]
      refine ih (j + 1) _ _ _ (by omega) (by simp [hl]) ?_ c4
      intro z hz'
      rcases List.mem_append.mp hz' with hz' | hz'
      · exact hz z hz'
      · obtain rfl : z = ⟨who, x⟩ := by simpa using hz'
        refine ⟨by unfold In64; dsimp only; omega, ?_⟩
        unfold In64
        dsimp only
        simp only [List.mem_cons, List.not_mem_nil, or_false] at hx
        omega
  exact key 7 0 i h [] (by omega) rfl (by simp) c
theorem drawChanText_de (code : List Int) (hc : code.length ≤ 1048576) : DE (fun k => spec_DrawChanText.f k code) (fun r => r.2.1.length ≤ 9 ∧ ∀ z ∈ r.2.1, In64 z) := by
  simp only [spec_DrawChanText.f]
  refine DE.bind (l1New_de code hc) ?_
  rintro ⟨b, i, h⟩ ⟨e, c⟩
  dsimp only at *
  subst e
  refine DE.bind (P := fun r => r.2.1.length ≤ 9 ∧ ∀ z ∈ r.2.1, In64 z) ?_ (fun r hr => DE.now hr)
  simp only [spec_l3Draw.f]
  refine DE.bind (l1Below_de _ _ _ _ c) ?_
  rintro ⟨q, _, _⟩ ⟨c2, q0, q1, _⟩
  dsimp only at *
  have q1' := q1 (by omega)
  refine DE.bind (l1Once_de _ _ _ _ c2) ?_
  rintro ⟨cl, i2, h2⟩ c3
  dsimp only at *
  rw [wrap_in (n := 1 + q) (by omega) (by omega)]
  have key : ∀ d (j : Nat) i h (l : List Int), j + d = 5 → l.length = j → (∀ z ∈ l, In64 z) → Cur b i → DE (fun k => spec_l3Draw.l0 k (j : Int) b i h (1 + q) l cl) (fun r => r.2.1.length ≤ 9 ∧ ∀ z ∈ r.2.1, In64 z) := by
    have last : ∀ (j : Nat) i h (l : List Int), j ≤ 5 → l.length = j → (∀ z ∈ l, In64 z) → Cur b i → DE (fun _ => (spec_l1Below.f b i h 12).bind fun bt469 => (if bt469.1 = 0 then ((spec_l1PickInt.f b bt469.2.1 bt469.2.2 (([0, 5, (-1)] : List Int))).bind fun bt475 => (some (bt475.1, l, cl, bt475.2.1, bt475.2.2))) else (if bt469.1 = 1 then ((some (([1, 2, 3, 4] : List Int) : List Int)).bind fun y478 => (if l.length + y478.length < 17592186044416 then (some (1 + q, (l ++ y478), cl, bt469.2.1, bt469.2.2)) else (none))) else (some (1 + q, l, cl, bt469.2.1, bt469.2.2))))) (fun r => r.2.1.length ≤ 9 ∧ ∀ z ∈ r.2.1, In64 z) := by
      intro j i h l hj hl hz c
      refine DE.bind (l1Below_de _ _ _ _ c) ?_
      rintro ⟨o, _, _⟩ ⟨c4, _⟩
      dsimp only at *
      refine DE.ite (fun _ => ?_) (fun _ => DE.ite (fun _ => ?_) (fun _ => DE.now ⟨by dsimp only; omega, hz⟩))
      · refine DE.bind (l1PickInt_de _ _ _ _ (by simp) c4) ?_
        rintro ⟨x, _, _⟩ _
        exact DE.now ⟨by dsimp only; omega, hz⟩
      · simp only [Option.bind_some]
        refine DE.pos (by simp; omega) (DE.now ⟨by simp; omega, ?_⟩)
        intro z hz'
        rcases List.mem_append.mp hz' with hz' | hz'
        · exact hz z hz'
        · simp only [List.mem_cons, List.not_mem_nil, or_false] at hz'
          unfold In64
          omega
    intro d
    induction d with
    | zero =>
      intro j i h l hj hl hz c
      refine DE.step (fun k => by rw [spec_l3Draw.l0, wrap_in (n := 1 + q + 1) (by omega) (by omega)]) ?_
      refine DE.bind (l1Below_de _ _ _ _ c) ?_
      rintro ⟨n, _, _⟩ ⟨c2, n0, n1, _⟩
      dsimp only at *
      have n1' := n1 (by omega)
      exact DE.neg (by omega) (last j _ _ l (by omega) hl hz c2)
    | succ d ih =>
      intro j i h l hj hl hz c
      refine DE.step (fun k => by rw [spec_l3Draw.l0, wrap_in (n := 1 + q + 1) (by omega) (by omega)]) ?_
      refine DE.bind (l1Below_de _ _ _ _ c) ?_
      rintro ⟨n, _, _⟩ ⟨c2, n0, n1, _⟩
      dsimp only at *
      refine DE.ite (fun _ => ?_) (fun _ => last j _ _ l (by omega) hl hz c2)
      refine DE.bind (l1Below_de _ _ _ _ c2) ?_
      rintro ⟨x, _, _⟩ ⟨c3, x0, x1, _⟩
      dsimp only at *
      refine DE.pos (by omega) ?_
      rw [wrapS (n := 99) (by omega) (by omega)]
      refine ih (j + 1) _ _ _ (by omega) (by simp [hl]) ?_ c3
      intro z hz'
      rcases List.mem_append.mp hz' with hz' | hz'
      · exact hz z hz'
      · obtain rfl : z = wrap64 (x - 3) := by simpa using hz'
        exact w64_in _
  exact key 5 0 _ _ [] (by omega) rfl (by simp) c3
theorem lines_loop (l : List S25) (T s1 t1 c1 : ByteArray) (op r a b n c : Int) (q : List Int) (cl : Bool) (hT : T.size ≤ 10000) (fin : ∀ m : Nat, m = nls T → Ev (fun k => laws_FnTexts.l0 k l s1 T t1 c1 (m : Int) (T.size : Int) op r a b n c q cl) true) :
    ∀ d (j m : Nat), j + d = T.size → m + (T.data.toList.drop j).count 10 = nls T → m ≤ j → Ev (fun k => laws_FnTexts.l0 k l s1 T t1 c1 (m : Int) (j : Int) op r a b n c q cl) true := by
  have hd := size_data T
  intro d
  induction d with
  | zero =>
    intro j m hj hm _
    rw [List.drop_eq_nil_of_le (by omega), List.count_nil, Nat.add_zero] at hm
    rw [show j = T.size by omega]
    exact fin m hm
  | succ d ih =>
    intro j m hj hm hmj
    have hlt : j < T.data.toList.length := by omega
    have hb := bt_data T j hlt
    have hjs : (j : Int) < (T.size : Int) := by omega
    have hj0 : 0 ≤ (j : Int) := Int.natCast_nonneg j
    have hj2 : j + 1 + d = T.size := by omega
    have ewj : wrap64 ((j : Int) + 1) = ((j + 1 : Nat) : Int) := wrap_in (by omega) (by omega)
    have hm2 : wrap64 ((m : Int) + 1) = ((m + 1 : Nat) : Int) := wrap_in (by omega) (by omega)
    rw [List.drop_eq_getElem_cons hlt, List.count_cons] at hm
    generalize hx : T.data.toList[j] = x at hm hb
    generalize hcnt : (T.data.toList.drop (j + 1)).count 10 = cnt at hm
    generalize hN : nls T = N at hm
    by_cases hc : x = 10
    · rw [hc, beq_self_eq_true, if_pos rfl] at hm
      have hm3 : m + 1 + (T.data.toList.drop (j + 1)).count 10 = nls T := by rw [hcnt, hN]; omega
      exact Ev.step (fun k => by rw [laws_FnTexts.l0, if_pos hjs, if_pos hj0, hb, if_pos ((is_nl x).mpr hc), hm2, ewj]) (ih (j + 1) (m + 1) hj2 hm3 (by omega))
    · rw [beq_eq_false_iff_ne.mpr hc, if_neg (by simp), Nat.add_zero] at hm
      have hm3 : m + (T.data.toList.drop (j + 1)).count 10 = nls T := by rw [hcnt, hN]; exact hm
      exact Ev.step (fun k => by rw [laws_FnTexts.l0, if_pos hjs, if_pos hj0, hb, if_neg (fun h => hc ((is_nl x).mp h)), ewj]) (ih (j + 1) m hj2 hm3 (by omega))
theorem FnTexts (x0 : (List Int)) (ok0 : (x0.length ≤ maxLen ∧ ∀ z ∈ x0, ((Lit.int .u8 z).wf = true))) : ∃ k, laws_FnTexts.f k x0 = some true := by
  have hl := ok0.1
  unfold maxLen at hl
  refine Ev.rounds (g := fun k => laws_FnTexts.f k x0) ?_
  simp only [laws_FnTexts.f, laws_big.f, Option.bind_some, decide_eq_true_eq]
  by_cases hb : (x0.length : Int) > 1048576
  · exact Ev.ite_pos hb (Ev.now _)
  refine Ev.ite_neg hb ?_
  obtain ⟨⟨op, r, a, b, n, p⟩, e1, _⟩ := drawStepOk_de x0 (by omega)
  obtain ⟨l, e2, hl2⟩ := drawCodeOk_de x0 (by omega)
  obtain ⟨tr, e3, ht1, ht2⟩ := drawTrace_de x0 (by omega)
  obtain ⟨⟨c, q, cl⟩, e4, hq1, hq2⟩ := drawChanText_de x0 (by omega)
  dsimp only at hq1 hq2
  have e1' : Ev (fun k => spec_DrawStepText.f k x0) (op, r, a, b, n) := by
    simp only [spec_DrawStepText.f]; exact Ev.bind e1 (Ev.now _)
  have e2' : Ev (fun k => spec_DrawCodeText.f k x0) l := by
    simp only [spec_DrawCodeText.f]; exact Ev.bind e2 (Ev.now _)
  refine Ev.bind e1' ?_
  refine Ev.bind e2' ?_
  refine Ev.bind e3 ?_
  refine Ev.bind e4 ?_
  dsimp only
  refine Ev.bind (impl_StepText_ev ..) ?_
  refine Ev.bind (impl_CodeText_ev l (by omega)) ?_
  refine Ev.bind (impl_TraceText_ev tr (by omega) ht2) ?_
  refine Ev.bind (impl_ChanText_ev c q cl (by omega) hq2) ?_
  refine Ev.bind (spec_StepText_ev ..) ?_
  refine Ev.ite_pos rfl ?_
  refine Ev.bind (spec_CodeText_ev l (by omega)) ?_
  refine Ev.ite_pos rfl ?_
  refine Ev.bind (spec_TraceText_ev tr (by omega) ht2) ?_
  refine Ev.ite_pos rfl ?_
  refine Ev.bind (spec_ChanText_ev c q cl (by omega) hq2) ?_
  rw [bne_self_eq_false]
  refine Ev.step (fun k => by rw [laws_FnTexts.j0, if_neg (by simp)]) ?_
  refine lines_loop l (codeText l) _ _ _ _ _ _ _ _ _ _ _ (codeText_size l hl2) ?_ _ 0 0 (Nat.zero_add _) (by rw [List.drop_zero, Nat.zero_add]; rfl) (Nat.le_refl _)
  intro m hm
  have hce := codeText_end l
  rw [← hm] at hce
  clear hm
  generalize codeText l = T at hce ⊢
  refine Ev.step (fun k => by rw [laws_FnTexts.l0, if_neg (by omega)]) ?_
  refine Ev.bind (impl_StepOk_ev ..) ?_
  refine Ev.ite_pos (by rw [stepText_ne]; simp) ?_
  simp only [impl_ChanOk_eq, Option.bind_some]
  refine Ev.ite_pos (by rw [chanText_ne]; simp) ?_
  refine Ev.ite_neg (traceT_ne tr) ?_
  rcases hce with ⟨h1, h2⟩ | ⟨h1, h2, h3⟩
  · refine Ev.ite_pos (by omega) ?_
    refine Ev.bind (impl_CodeOk_ev l (by omega)) ?_
    exact Ev.ite_pos h1 (Ev.now _)
  · have fin : Ev (fun k => if T.toList = ([] : List UInt8) then (impl_CodeOk.f k l).bind fun t => some (!t) else some false) true := by
      refine Ev.ite_pos h2 (Ev.bind (impl_CodeOk_ev l (by omega)) ?_)
      rw [h1]
      exact Ev.now _
    by_cases hz : (m : Int) = (l.length : Int)
    · refine Ev.ite_pos hz ?_
      refine Ev.bind (impl_CodeOk_ev l (by omega)) ?_
      exact Ev.ite_neg (by rw [h1]; simp) fin
    · exact Ev.ite_neg hz fin
end Go.Proofs.YtdbobicbbfmepaaDoor.Pure
namespace Go.Proofs.YtdbobicbbfmepaaDoor.Rd
open Go.RowKit Go.Proofs.YtdbobicbbfmepaaDoorW.PrintWords Go.ChangeShapes Go.WideShapes
set_option linter.unusedVariables false
def Opens {α : Type} (P : Program) (t : TypeId) (d : Kd α) (ok : α → Prop) : Prop :=
  ∀ (H : Type) (enc : TypeId × Value → H) (w : World) (base : Nat) (spare : Nat → Bool) (held : Bool) (fuel : Nat) (cs : List Value) (x : DataW H × List MemPlace),
    DataW.trod enc P w base spare held fuel t cs = some x → ∃ y, d.K w y cs ∧ ok y
theorem Opens.int {P : Program} {t : TypeId} {k : IntKind} (ht : P.underlying t = some (.int k)) : Opens P t (Kd.int k) (fun n => (Lit.int k n).wf = true) := by
  intro H enc w base spare held fuel cs x h
  obtain ⟨n, rfl, _, hw⟩ := DataW.trod_int ht h
  exact ⟨n, rfl, hw⟩
theorem Opens.bool {P : Program} {t : TypeId} (ht : P.underlying t = some .bool) : Opens P t Kd.bool (fun _ => True) := by
  intro H enc w base spare held fuel cs x h
  obtain ⟨n, rfl, _⟩ := DataW.trod_bool ht h
  exact ⟨n, rfl, trivial⟩
theorem Opens.string {P : Program} {t : TypeId} (ht : P.underlying t = some .string) : Opens P t Kd.string (fun s => s.size ≤ maxLen) := by
  intro H enc w base spare held fuel cs x h
  obtain ⟨n, rfl, _, hs⟩ := DataW.trod_string ht h
  exact ⟨n, rfl, hs⟩
theorem list_of {α : Type} {Q : Nat → α → Prop} : ∀ n : Nat, (∀ i, i < n → ∃ y, Q i y) → ∃ ys : List α, ys.length = n ∧ ∀ i y, ys[i]? = some y → Q i y := by
  intro n
  induction n with
  | zero => exact fun _ => ⟨[], rfl, fun i y h => by simp at h⟩
  | succ n ih =>
    intro h
    obtain ⟨ys, hl, hq⟩ := ih (fun i hi => h i (by omega))
    obtain ⟨y, hy⟩ := h n (by omega)
    refine ⟨ys ++ [y], by simp [hl], fun i z hz => ?_⟩
    rcases Nat.lt_or_ge i ys.length with hi | hi
    · rw [List.getElem?_append_left hi] at hz
      exact hq i z hz
    · rw [List.getElem?_append_right hi] at hz
      have h0 : i - ys.length = 0 := by
        have := (List.getElem?_eq_some_iff.1 hz).1
        simp at this
        omega
      rw [h0] at hz
      simp at hz
      subst hz
      have : i = n := by omega
      rw [this]
      exact hy
theorem Opens.slice {α : Type} {P : Program} {t e : TypeId} (q : Nat) {d : Kd α} {ok : α → Prop} (ht : P.underlying t = some (.slice e)) (hs : P.cellsOf e = d.sz) (he : Opens P e d ok) :
    Opens P t (Kd.slice q d) (fun xs => xs.length ≤ maxLen ∧ ∀ x ∈ xs, ok x) := by
  intro H enc w base spare held fuel cs x h
  rcases DataW.trod_slice ht h with ⟨rfl, _⟩ | ⟨a, len, cap, elems, rest, n, _, rfl, _, _, hl, hm, hlen, hel, _, _⟩
  · exact ⟨[], ⟨none, 0, rfl, Nat.le_refl _, rfl, by simp, fun hp => absurd hp (by simp)⟩, by simp, by simp⟩
  · have each : ∀ i, i < len → ∃ y, ∃ c, w.cells? base (a.add (i * d.sz)) d.sz = some c ∧ d.K w y c ∧ ok y := by
      intro i hi
      have h1 := hel i hi
      rw [List.getElem?_eq_getElem (by omega), Option.bind_eq_some_iff, hs] at h1
      obtain ⟨c, hc, hx⟩ := h1
      obtain ⟨y, hy, ho⟩ := he H enc w base spare held n c _ hx
      exact ⟨y, c, hc, hy, ho⟩
    obtain ⟨ys, hyl, hq⟩ := list_of len each
    have hm' : len ≤ 9223372036854775807 := by unfold maxLen at hm; omega
    refine ⟨ys, ⟨some a, cap, by rw [hyl], by omega, rfl, by omega, fun _ => ⟨a, rfl, fun j p hj => ?_⟩⟩, by omega, fun y hy => ?_⟩
    · obtain ⟨c, hc, hk, _⟩ := hq j p hj
      obtain ⟨_, hcl, hcell⟩ := World.cells?_some hc
      refine ⟨c, hcl, hk, fun i u hu => ?_⟩
      have hi : i < d.sz := by
        have := (List.getElem?_eq_some_iff.1 hu).1
        omega
      rw [← Addr.add_add, hcell i hi, hu]
    · obtain ⟨i, hi⟩ := List.getElem?_of_mem hy
      obtain ⟨c, _, _, ho⟩ := hq i y hi
      exact ho
def OpensAt {α : Type} (P : Program) (fs : List Field) (off : Nat) (d : Kd α) (ok : α → Prop) : Prop :=
  ∀ (H : Type) (enc : TypeId × Value → H) (w : World) (base : Nat) (spare : Nat → Bool) (held : Bool) (n : Nat) (cs : List Value), cs.length = off + d.sz →
    (∀ f ∈ fs, ∃ y, DataW.trod enc P w base spare held n f.type ((cs.drop f.offset).take (P.cellsOf f.type)) = some y) → ∃ y, d.K w y (cs.drop off) ∧ ok y
theorem OpensAt.one {α : Type} {P : Program} {f : Field} {off : Nat} {d : Kd α} {ok : α → Prop} (ho : f.offset = off) (hs : P.cellsOf f.type = d.sz) (h : Opens P f.type d ok) : OpensAt P [f] off d ok := by
  intro H enc w base spare held n cs hl hf
  obtain ⟨x, hx⟩ := hf f (by simp)
  rw [ho, hs, List.take_of_length_le (by simp; omega)] at hx
  exact h _ _ _ _ _ _ _ _ _ hx
theorem OpensAt.cons {α β : Type} {P : Program} {f : Field} {fs : List Field} {off : Nat} {a : Kd α} {b : Kd β} {oka : α → Prop} {okb : β → Prop} (ho : f.offset = off) (hs : P.cellsOf f.type = a.sz) (h : Opens P f.type a oka)
    (hr : OpensAt P fs (off + a.sz) b okb) : OpensAt P (f :: fs) off (Kd.pair a b) (fun x => oka x.1 ∧ okb x.2) := by
  intro H enc w base spare held n cs hl hf
  obtain ⟨x, hx⟩ := hf f (by simp)
  rw [ho, hs] at hx
  obtain ⟨y, hy, oy⟩ := h _ _ _ _ _ _ _ _ _ hx
  have hl' : cs.length = (off + a.sz) + b.sz := by rw [hl]; show off + (a.sz + b.sz) = _; omega
  obtain ⟨z, hz, oz⟩ := hr H enc w base spare held n cs hl' (fun g hg => hf g (by simp [hg]))
  refine ⟨(y, z), ⟨_, _, ?_, hy, hz⟩, oy, oz⟩
  rw [← List.drop_drop]
  exact (List.take_append_drop _ _).symm
theorem Opens.struct {α : Type} {P : Program} {t : TypeId} {fs : List Field} {d : Kd α} {ok : α → Prop} (ht : P.underlying t = some (.struct (List.toArray fs))) (hs : P.cellsOf t = d.sz) (h : OpensAt P fs 0 d ok) : Opens P t d ok := by
  intro H enc w base spare held fuel cs x hx
  obtain ⟨xs, n, _, _, hl, hlen, hf⟩ := DataW.trod_struct ht hx
  obtain ⟨y, hy, oy⟩ := h H enc w base spare held n cs (by omega) (fun f hm => by
    obtain ⟨i, hi⟩ := List.getElem?_of_mem hm
    have hi' : (List.toArray fs)[i]? = some f := by simpa using hi
    have h1 := hf i f hi'
    have hlt : i < xs.length := by
      have := (Array.getElem?_eq_some_iff.1 hi').1
      omega
    rw [List.getElem?_eq_getElem hlt] at h1
    exact ⟨_, h1⟩)
  exact ⟨y, by simpa using hy, oy⟩
theorem Opens.iso {α β : Type} {P : Program} {t : TypeId} {d : Kd α} {ok : α → Prop} (f : β → α) (g : α → β) (hg : ∀ x, f (g x) = x) (h : Opens P t d ok) : Opens P t (Kd.iso d f) (fun y => ok (f y)) := by
  intro H enc w base spare held fuel cs x hx
  obtain ⟨y, hy, o⟩ := h H enc w base spare held fuel cs x hx
  refine ⟨g y, ?_, ?_⟩
  · show d.K w (f (g y)) cs
    rw [hg]
    exact hy
  · show ok (f (g y))
    rw [hg]
    exact o
theorem Opens.at_slice {α : Type} {P : Program} {t : TypeId} {q : Nat} {d : Kd α} {ok : List α → Prop} (h : Opens P t (Kd.slice q d) ok) {H : Type} {enc : TypeId × Value → H} {w : World} {base : Nat} {spare : Nat → Bool} {held : Bool} {v : Value} {x : DataW H} {ps : List MemPlace}
    {e : TypeId} {r : Reach} {b0 : Nat} (hu : P.underlying t = some (.slice e)) (hv : Value.okWide P w r b0 t v) (hx : DataW.Trod enc P w base spare held t v x ps) : ∃ xs A c, v = .slice A xs.length c ∧ xs.length ≤ c ∧ d.C w A xs.length xs ∧ ok xs := by
  obtain ⟨a, len, cap, rfl⟩ := okWide_slice hu hv
  obtain ⟨fuel, hf⟩ := hx
  obtain ⟨xs, ⟨A, c, hcs, hl, hC⟩, o⟩ := h _ _ _ _ _ _ _ _ _ hf
  refine ⟨xs, A, c, ?_, hl, hC, o⟩
  simpa [Value.cells] using hcs
end Go.Proofs.YtdbobicbbfmepaaDoor.Rd
namespace Go.Proofs.YtdbobicbbfmepaaDoor.Tab
open Go.RowKit
theorem tab_data : (Rows.laid_internal_strconv_uint64pow10 : DataW Unit) = Lib.tabData .u64 Lib.pow10Tab := by kernel_rfl
set_option maxRecDepth 100000 in
theorem of_laid {W : World} (h : laidMetH Tryd.prog [("math/bits.deBruijn32tab", Rows.laid_math_bits_deBruijn32tab), ("math/bits.deBruijn64tab", Rows.laid_math_bits_deBruijn64tab), ("internal/strconv.uint64pow10", Rows.laid_internal_strconv_uint64pow10)] W) : Laid W := by
  rw [MakeChecks.laidMetH_plain _ _ _ (by kernel_rfl)] at h
  obtain ⟨ps, ⟨g0, t0, cs0, f0, p0, q0, hg0, ht0, hv0, hd0, ⟨g1, t1, cs1, f1, p1, q1, hg1, ht1, hv1, hd1, ⟨g2, t2, cs2, f2, p2, q2, hg2, ht2, hv2, hd2, _, _⟩, _⟩, _⟩, _, _⟩ := h
  rw [tab_data] at hd2
  obtain rfl := Option.some.inj ((show Tryd.prog.globalNamed "internal/strconv.uint64pow10" = some 3 by kernel_rfl).symm.trans hg2)
  obtain rfl := Option.some.inj ((show (Tryd.prog.globals[3]?).map (·.type) = some 159 by kernel_rfl).symm.trans ht2)
  unfold Laid Lib.TabIs
  rw [hv2, ← Lib.cells_of_tab (n := 20) Tryd.underlying159 Tryd.underlying140 (by kernel_rfl) (by kernel_rfl) hd2]
end Go.Proofs.YtdbobicbbfmepaaDoor.Tab
