/- A part of the proof that the law FnRight holds for every input: the words, functions and walks that its row needs, without a condition of their own. -/
import Derived.ProofKit
import Derived.DataElems
import Derived.ChangeArms
import Derived.SizedLaws
import Derived.Test.YtpefeaiglkkkoabZFnRighta0
import Derived.Test.YtpefeaiglkkkoabZFnRighta13
namespace Go.Proofs.Ytpefeaiglkkkoab.Lp
open Go.RowKit Go.Proofs.YtpefeaiglkkkoabW.PrintWords
set_option linter.unusedVariables false
set_option linter.unusedSimpArgs false
theorem wrapS {j n : Nat} (h : j < n) (hn : n ≤ 9223372036854775807) : wrap64 ((j : Int) + 1) = ((j + 1 : Nat) : Int) := by
  unfold wrap64; omega
theorem wrap_in {n : Int} (h0 : -9223372036854775808 ≤ n) (h1 : n ≤ 9223372036854775807) : wrap64 n = n := by
  unfold wrap64; omega
theorem rd_get {xs : List Int} {j : Nat} (h : j < xs.length) : rd xs (j : Int) = xs[j] := by simp [rd, List.getD_eq_getElem?_getD, h]
theorem count_up {ρ : Type} {L : Nat → Nat → Option ρ} {R : Nat → ρ} {n : Nat} (hend : Ev (L n) (R n)) (hstep : ∀ j, j < n → Ev (L (j + 1)) (R (j + 1)) → Ev (L j) (R j)) : ∀ j, j ≤ n → Ev (L j) (R j) := by
  have key : ∀ d j, j + d = n → Ev (L j) (R j) := by
    intro d
    induction d with
    | zero => intro j hj; obtain rfl : j = n := by omega
              exact hend
    | succ d ih => intro j hj; exact hstep j (by omega) (ih (j + 1) (by omega))
  exact fun j hj => key (n - j) j (by omega)
theorem Ev.one {α : Type} {g : Nat → Option α} {r : α} (h : ∀ k, g (k + 1) = some r) : Ev g r := ⟨1, fun k hk => by
  obtain ⟨m, rfl⟩ : ∃ m, k = m + 1 := ⟨k - 1, by omega⟩
  exact h m⟩
theorem Ev.all {α : Type} {g : Nat → Option α} {r : α} (h : ∀ k, g k = some r) : Ev g r := ⟨0, fun k _ => h k⟩
def allFrom {α : Type} (p : α → Bool) (xs : List α) (j : Nat) : Bool := (xs.drop j).all p
theorem allFrom_step {α : Type} {p : α → Bool} {xs : List α} {j : Nat} (h : j < xs.length) : allFrom p xs j = (p xs[j] && allFrom p xs (j + 1)) := by
  unfold allFrom
  rw [List.drop_eq_getElem_cons h, List.all_cons]
theorem allFrom_end {α : Type} {p : α → Bool} (xs : List α) : allFrom p xs xs.length = true := by simp [allFrom]
theorem allFrom_zero {α : Type} (p : α → Bool) (xs : List α) : allFrom p xs 0 = xs.all p := rfl
theorem Ev.val {α : Type} {g : Nat → Option α} {r r' : α} (h : r = r') (k : Ev g r) : Ev g r' := h ▸ k
theorem Ev.ite_pos {α : Type} {c : Prop} [Decidable c] {g f : Nat → Option α} {r : α} (h : c) (k : Ev g r) : Ev (fun n => if c then g n else f n) r := by simp only [if_pos h]; exact k
theorem Ev.ite_neg {α : Type} {c : Prop} [Decidable c] {g f : Nat → Option α} {r : α} (h : ¬ c) (k : Ev f r) : Ev (fun n => if c then g n else f n) r := by simp only [if_neg h]; exact k
theorem all_loop {α : Type} {L : Nat → Nat → Option Bool} (xs : List α) (p : α → Bool) {b : Bool} (hend : Ev (L xs.length) b) (hyes : ∀ j (h : j < xs.length), p xs[j] = true → ∀ r, Ev (L (j + 1)) r → Ev (L j) r) (hno : ∀ j (h : j < xs.length), p xs[j] = false → Ev (L j) false) : Ev (L 0) (xs.all p && b) := by
  have key : ∀ d j, j + d = xs.length → Ev (L j) (allFrom p xs j && b) := by
    intro d
    induction d with
    | zero =>
      intro j hj
      obtain rfl : j = xs.length := by omega
      rw [allFrom_end, Bool.true_and]
      exact hend
    | succ d ih =>
      intro j hj
      have h : j < xs.length := by omega
      rw [allFrom_step h]
      cases e : p xs[j] with
      | true => rw [Bool.true_and]; exact hyes j h e _ (ih (j + 1) (by omega))
      | false => rw [Bool.false_and, Bool.false_and]; exact hno j h e
  have := key xs.length 0 (by omega)
  rwa [allFrom_zero] at this
end Go.Proofs.Ytpefeaiglkkkoab.Lp
namespace Go.Proofs.Ytpefeaiglkkkoab.Pure
open Go.RowKit Go.Proofs.Ytpefeaiglkkkoab.PFnRight Go.Proofs.YtpefeaiglkkkoabW.PrintWords Go.Proofs.YtpefeaiglkkkoabW.PrintLast Go.Proofs.Ytpefeaiglkkkoab.Lp
set_option linter.unusedVariables false
set_option linter.unusedSimpArgs false
theorem and255 (n : Int) : Go.bits .and .i64 n 255 = n % 256 := by
  have h : (BitVec.ofInt 64 255).toNat = 2 ^ 8 - 1 := by decide
  have key : (BitVec.ofInt 64 n &&& BitVec.ofInt 64 255).toNat = (n % ((2 ^ 64 : Nat) : Int)).toNat % 2 ^ 8 := by
    rw [BitVec.toNat_and, BitVec.toNat_ofInt, h, Nat.and_two_pow_sub_one_eq_mod]
  show IntKind.i64.wrap ((BitVec.ofInt 64 n &&& BitVec.ofInt 64 255).toNat : Nat) = n % 256
  rw [key, IntKind.wrap_i64]
  omega
def Cur (b : List Int) (i : Int) : Prop := 0 ≤ i ∧ i ≤ (b.length : Int) ∧ (b.length : Int) ≤ 1048576
theorem l1Byte_eq (b : List Int) (i h : Int) (c : Cur b i) : ∃ x i' h', spec_l1Byte.f b i h = some (x, i', h') ∧ (0 ≤ x ∧ x ≤ 255) ∧ Cur b i' := by
  obtain ⟨c0, c1, c2⟩ := c
  unfold spec_l1Byte.f
  by_cases e : i < (b.length : Int)
  · rw [if_pos e, if_pos c0, and255, wrap_in (n := i + 1) (by omega) (by omega)]
    exact ⟨_, _, _, rfl, by omega, by omega, by omega, c2⟩
  · rw [if_neg e, and255]
    exact ⟨_, _, _, rfl, by omega, c0, c1, c2⟩
theorem l1Below_eq (b : List Int) (i h n : Int) (c : Cur b i) : ∃ x i' h', spec_l1Below.f b i h n = some (x, i', h') ∧ (0 ≤ x ∧ (0 < n → x < n) ∧ (n ≤ 0 → x = 0)) ∧ Cur b i' := by
  unfold spec_l1Below.f
  by_cases h0 : n ≤ 0
  · rw [if_pos h0]
    exact ⟨_, _, _, rfl, ⟨by omega, by omega, fun _ => rfl⟩, c⟩
  · rw [if_neg h0]
    obtain ⟨x1, i1, h1, e1, b1, c1⟩ := l1Byte_eq b i h c
    by_cases h2 : n ≤ 256
    · rw [if_pos h2, e1]
      simp only [Option.bind_some]
      rw [if_neg (by omega)]
      exact ⟨_, _, _, rfl, ⟨Int.tmod_nonneg _ (by omega), fun _ => Int.tmod_lt_of_pos _ (by omega), fun h => absurd h h0⟩, c1⟩
    · obtain ⟨x2, i2, h2', e2, b2, c2⟩ := l1Byte_eq b i1 h1 c1
      obtain ⟨x3, i3, h3', e3, b3, c3⟩ := l1Byte_eq b i2 h2' c2
      obtain ⟨x4, i4, h4', e4, b4, c4⟩ := l1Byte_eq b i3 h3' c3
      rw [if_neg h2, e1]
      simp only [Option.bind_some, e2, e3, e4]
      rw [if_neg (by omega), wrap_in (n := x1 * 16777216) (by omega) (by omega), wrap_in (n := x2 * 65536) (by omega) (by omega), wrap_in (n := x3 * 256) (by omega) (by omega), wrap_in (n := x1 * 16777216 + x2 * 65536) (by omega) (by omega), wrap_in (n := x1 * 16777216 + x2 * 65536 + x3 * 256) (by omega) (by omega), wrap_in (by omega) (by omega)]
      exact ⟨_, _, _, rfl, ⟨Int.tmod_nonneg _ (by omega), fun _ => Int.tmod_lt_of_pos _ (by omega), fun h => absurd h h0⟩, c4⟩
theorem l1New_ev (b : List Int) (hb : b.length ≤ 1048576) : ∃ h, Ev (fun k => spec_l1New.f k b) (b, 0, h) ∧ Cur b 0 := by
  have key : ∀ d j h, j + d = min b.length 4000 → ∃ h', Ev (fun k => spec_l1New.l0 k b h (j : Int)) (b, 0, h') := by
    intro d
    induction d with
    | zero =>
      intro j h hj
      refine ⟨h, Ev.one fun k => ?_⟩
      simp only [spec_l1New.l0]
      by_cases c : (j : Int) < (b.length : Int)
      · rw [if_pos c, if_neg (by omega)]
      · rw [if_neg c]
    | succ d ih =>
      intro j h hj
      obtain ⟨h', e⟩ := ih (j + 1) _ (by omega)
      exact ⟨h', Ev.step (fun k => by
        simp only [spec_l1New.l0]
        rw [if_pos (by omega), if_pos (by omega), if_pos (by omega), wrapS (n := b.length) (by omega) (by omega)]) e⟩
  obtain ⟨h', e⟩ := key _ 0 _ (Nat.zero_add _)
  exact ⟨h', e, by omega, by omega, by omega⟩
theorem l1Once_eq (b : List Int) (i h n : Int) (c : Cur b i) : ∃ (x : Bool) (i' h' : Int), spec_l1Once.f b i h n = some (x, i', h') ∧ Cur b i' := by
  obtain ⟨x, i', h', e, _, c'⟩ := l1Below_eq b i h n c
  exact ⟨_, _, _, by unfold spec_l1Once.f; rw [e]; rfl, c'⟩
theorem l1PickInt_eq (b : List Int) (i h : Int) (l : List Int) (hl : 0 < l.length) (c : Cur b i) : ∃ x i' h', spec_l1PickInt.f b i h l = some (x, i', h') ∧ x ∈ l ∧ Cur b i' := by
  obtain ⟨x, i', h', e, ⟨h0, h1, _⟩, c'⟩ := l1Below_eq b i h (l.length : Int) c
  have h1' := h1 (by omega)
  refine ⟨_, _, _, by unfold spec_l1PickInt.f; rw [e]; simp only [Option.bind_some]; rw [if_pos h0, if_pos h1'], ?_, c'⟩
  obtain ⟨j, rfl⟩ := Int.eq_ofNat_of_zero_le h0
  rw [rd_get (by omega)]
  exact List.getElem_mem _
def DE {α : Type} (g : Nat → Option α) (P : α → Prop) : Prop := ∃ r, Ev g r ∧ P r
theorem DE.bind {α β : Type} {g : Nat → Option α} {f : α → Nat → Option β} {P : α → Prop} {Q : β → Prop} (h : DE g P) (k : ∀ x, P x → DE (f x) Q) : DE (fun n => (g n).bind fun x => f x n) Q := by
  obtain ⟨r, e, p⟩ := h
  obtain ⟨r', e', q⟩ := k r p
  exact ⟨r', Ev.bind e e', q⟩
theorem DE.now {α : Type} {r : α} {Q : α → Prop} (h : Q r) : DE (fun _ => some r) Q := ⟨r, Ev.now _, h⟩
theorem DE.ite {α : Type} {c : Prop} [Decidable c] {g f : Nat → Option α} {Q : α → Prop} (h : c → DE g Q) (k : ¬ c → DE f Q) : DE (fun n => if c then g n else f n) Q := by
  by_cases e : c
  · simp only [if_pos e]; exact h e
  · simp only [if_neg e]; exact k e
theorem DE.pos {α : Type} {c : Prop} [Decidable c] {g f : Nat → Option α} {Q : α → Prop} (e : c) (h : DE g Q) : DE (fun n => if c then g n else f n) Q := by simp only [if_pos e]; exact h
theorem DE.neg {α : Type} {c : Prop} [Decidable c] {g f : Nat → Option α} {Q : α → Prop} (e : ¬ c) (h : DE f Q) : DE (fun n => if c then g n else f n) Q := by simp only [if_neg e]; exact h
theorem DE.step {α : Type} {g f : Nat → Option α} {Q : α → Prop} (e : ∀ k, g (k + 1) = f k) (h : DE f Q) : DE g Q := by
  obtain ⟨r, e', q⟩ := h
  exact ⟨r, Ev.step e e', q⟩
theorem DE.congr {α : Type} {g f : Nat → Option α} {Q : α → Prop} (e : ∀ k, g k = f k) (h : DE f Q) : DE g Q := by
  obtain ⟨r, e', q⟩ := h
  exact ⟨r, Ev.congr e e', q⟩
theorem bD (b : List Int) (i h n : Int) (c : Cur b i) : DE (fun _ => spec_l1Below.f b i h n) (fun r => Cur b r.2.1 ∧ 0 ≤ r.1 ∧ (0 < n → r.1 < n) ∧ (n ≤ 0 → r.1 = 0)) := by
  obtain ⟨x, i', h', e, ⟨p, q, s⟩, c'⟩ := l1Below_eq b i h n c
  exact ⟨_, Ev.all fun _ => e, c', p, q, s⟩
theorem l1New_de (b : List Int) (hb : b.length ≤ 1048576) : DE (fun k => spec_l1New.f k b) (fun r => r.1 = b ∧ Cur b r.2.1) := by
  obtain ⟨h, e, c⟩ := l1New_ev b hb
  exact ⟨_, e, rfl, c⟩
theorem oD (b : List Int) (i h n : Int) (c : Cur b i) : DE (fun _ => spec_l1Once.f b i h n) (fun r => Cur b r.2.1) := by
  obtain ⟨x, i', h', e, c'⟩ := l1Once_eq b i h n c
  exact ⟨_, Ev.all fun _ => e, c'⟩
theorem pD (b : List Int) (i h : Int) (l : List Int) (hl : 0 < l.length) (c : Cur b i) : DE (fun _ => spec_l1PickInt.f b i h l) (fun r => Cur b r.2.1 ∧ r.1 ∈ l) := by
  obtain ⟨x, i', h', e, m, c'⟩ := l1PickInt_eq b i h l hl c
  exact ⟨_, Ev.all fun _ => e, c', m⟩
theorem l1Max_ev (a b : Int) : ∃ m, spec_l1Max.f a b = some m ∧ a ≤ m ∧ b ≤ m ∧ (m = a ∨ m = b) := by
  unfold spec_l1Max.f
  by_cases h : a > b
  · exact ⟨a, if_pos h, by omega, by omega, Or.inl rfl⟩
  · exact ⟨b, if_neg h, by omega, by omega, Or.inr rfl⟩
theorem l1DrawIns_ev (b : List Int) (i h n m : Int) (c : Cur b i) : ∃ op r x y z i' h', Ev (fun k => spec_l1DrawIns.f k b i h n m) (op, r, x, y, z, i', h') ∧ Cur b i' := by
  obtain ⟨r, i1, h1, e1, _, c1⟩ := l1Below_eq b i h 4 c
  obtain ⟨x, i2, h2, e2, _, c2⟩ := l1Below_eq b i1 h1 4 c1
  obtain ⟨y, i3, h3, e3, _, c3⟩ := l1Below_eq b i2 h2 4 c2
  obtain ⟨mm, em, _⟩ := l1Max_ev m 1
  obtain ⟨z, i4, h4, e4, _, c4⟩ := l1Below_eq b i3 h3 mm c3
  obtain ⟨o, i5, h5, e5, _, c5⟩ := l1Below_eq b i4 h4 16 c4
  have k3 : ∀ q, ∃ op r' x' y' z' i' h', Ev (fun k => spec_l1DrawIns.j3 k n r x z o q b i5 h5) (op, r', x', y', z', i', h') ∧ Cur b i' := by
    intro q
    cases q with
    | true => exact ⟨_, _, _, _, _, _, _, Ev.one fun k => by simp only [spec_l1DrawIns.j3, if_true]; rfl, c5⟩
    | false =>
      by_cases o10 : o = 10
      · exact ⟨_, _, _, _, _, _, _, Ev.one fun k => by simp only [spec_l1DrawIns.j3, Bool.false_eq_true, if_false, if_pos o10]; rfl, c5⟩
      by_cases o11 : o = 11
      · exact ⟨_, _, _, _, _, _, _, Ev.one fun k => by simp only [spec_l1DrawIns.j3, Bool.false_eq_true, if_false, if_neg o10, if_pos o11]; rfl, c5⟩
      by_cases o12 : o = 12
      · obtain ⟨q, i6, h6, e6, c6⟩ := l1Once_eq b i5 h5 3 c5
        cases q with
        | true => exact ⟨_, _, _, _, _, _, _, Ev.one fun k => by simp only [spec_l1DrawIns.j3, Bool.false_eq_true, if_false, if_neg o10, if_neg o11, if_pos o12, e6, Option.bind_some, if_true]; rfl, c6⟩
        | false =>
          obtain ⟨w, i7, h7, e7, _, c7⟩ := l1Below_eq b i6 h6 n c6
          exact ⟨_, _, _, _, _, _, _, Ev.one fun k => by simp only [spec_l1DrawIns.j3, Bool.false_eq_true, if_false, if_neg o10, if_neg o11, if_pos o12, e6, e7, Option.bind_some]; rfl, c7⟩
      by_cases o13 : o = 13
      · obtain ⟨w, i7, h7, e7, _, c7⟩ := l1Below_eq b i5 h5 n c5
        exact ⟨_, _, _, _, _, _, _, Ev.one fun k => by simp only [spec_l1DrawIns.j3, Bool.false_eq_true, if_false, if_neg o10, if_neg o11, if_neg o12, if_pos o13, e7, Option.bind_some]; rfl, c7⟩
      exact ⟨_, _, _, _, _, _, _, Ev.one fun k => by simp only [spec_l1DrawIns.j3, Bool.false_eq_true, if_false, if_neg o10, if_neg o11, if_neg o12, if_neg o13]; rfl, c5⟩
  have k2 : ∀ q, ∃ op r' x' y' z' i' h', Ev (fun k => spec_l1DrawIns.j2 k n r x z o q b i5 h5) (op, r', x', y', z', i', h') ∧ Cur b i' := by
    intro q
    cases q with
    | true => exact ⟨_, _, _, _, _, _, _, Ev.one fun k => by simp only [spec_l1DrawIns.j2, if_true]; rfl, c5⟩
    | false =>
      by_cases o7 : o = 7
      · obtain ⟨_, _, _, _, _, _, _, e, c'⟩ := k3 (o == 7)
        exact ⟨_, _, _, _, _, _, _, Ev.step (fun k => by simp only [spec_l1DrawIns.j2, Bool.false_eq_true, if_false, if_pos o7]) e, c'⟩
      by_cases o8 : o = 8
      · obtain ⟨_, _, _, _, _, _, _, e, c'⟩ := k3 (o == 8)
        exact ⟨_, _, _, _, _, _, _, Ev.step (fun k => by simp only [spec_l1DrawIns.j2, Bool.false_eq_true, if_false, if_neg o7, if_pos o8]) e, c'⟩
      obtain ⟨_, _, _, _, _, _, _, e, c'⟩ := k3 (o == 9)
      exact ⟨_, _, _, _, _, _, _, Ev.step (fun k => by simp only [spec_l1DrawIns.j2, Bool.false_eq_true, if_false, if_neg o7, if_neg o8]) e, c'⟩
  have k1 : ∀ q, ∃ op r' x' y' z' i' h', Ev (fun k => spec_l1DrawIns.j1 k n r x y z o q b i5 h5) (op, r', x', y', z', i', h') ∧ Cur b i' := by
    intro q
    cases q with
    | true =>
      obtain ⟨w, i7, h7, e7, _, c7⟩ := l1Below_eq b i5 h5 3 c5
      exact ⟨_, _, _, _, _, _, _, Ev.one fun k => by simp only [spec_l1DrawIns.j1, if_true, e7, Option.bind_some]; rfl, c7⟩
    | false =>
      by_cases o4 : o = 4
      · obtain ⟨_, _, _, _, _, _, _, e, c'⟩ := k2 (o == 4)
        exact ⟨_, _, _, _, _, _, _, Ev.step (fun k => by simp only [spec_l1DrawIns.j1, Bool.false_eq_true, if_false, if_pos o4]) e, c'⟩
      by_cases o5 : o = 5
      · obtain ⟨_, _, _, _, _, _, _, e, c'⟩ := k2 (o == 5)
        exact ⟨_, _, _, _, _, _, _, Ev.step (fun k => by simp only [spec_l1DrawIns.j1, Bool.false_eq_true, if_false, if_neg o4, if_pos o5]) e, c'⟩
      obtain ⟨_, _, _, _, _, _, _, e, c'⟩ := k2 (o == 6)
      exact ⟨_, _, _, _, _, _, _, Ev.step (fun k => by simp only [spec_l1DrawIns.j1, Bool.false_eq_true, if_false, if_neg o4, if_neg o5]) e, c'⟩
  have k0 : ∀ q, ∃ op r' x' y' z' i' h', Ev (fun k => spec_l1DrawIns.j0 k n r x y z o q b i5 h5) (op, r', x', y', z', i', h') ∧ Cur b i' := by
    intro q
    cases q with
    | true =>
      obtain ⟨w, i7, h7, e7, _, c7⟩ := l1Below_eq b i5 h5 9 c5
      exact ⟨_, _, _, _, _, _, _, Ev.one fun k => by simp only [spec_l1DrawIns.j0, if_true, e7, Option.bind_some]; rfl, c7⟩
    | false =>
      by_cases o2 : o = 2
      · obtain ⟨_, _, _, _, _, _, _, e, c'⟩ := k1 (o == 2)
        exact ⟨_, _, _, _, _, _, _, Ev.step (fun k => by simp only [spec_l1DrawIns.j0, Bool.false_eq_true, if_false, if_pos o2]) e, c'⟩
      obtain ⟨_, _, _, _, _, _, _, e, c'⟩ := k1 (o == 3)
      exact ⟨_, _, _, _, _, _, _, Ev.step (fun k => by simp only [spec_l1DrawIns.j0, Bool.false_eq_true, if_false, if_neg o2]) e, c'⟩
  by_cases o0 : o = 0
  · obtain ⟨_, _, _, _, _, _, _, e, c'⟩ := k0 (o == 0)
    exact ⟨_, _, _, _, _, _, _, Ev.congr (fun k => by simp only [spec_l1DrawIns.f, e1, e2, e3, em, e4, e5, Option.bind_some, if_pos o0]) e, c'⟩
  · obtain ⟨_, _, _, _, _, _, _, e, c'⟩ := k0 (o == 1)
    exact ⟨_, _, _, _, _, _, _, Ev.congr (fun k => by simp only [spec_l1DrawIns.f, e1, e2, e3, em, e4, e5, Option.bind_some, if_neg o0]) e, c'⟩
theorem iD (b : List Int) (i h n m : Int) (c : Cur b i) : DE (fun k => spec_l1DrawIns.f k b i h n m) (fun r => Cur b r.2.2.2.2.2.1) := by
  obtain ⟨_, _, _, _, _, _, _, e, c'⟩ := l1DrawIns_ev b i h n m c
  exact ⟨_, e, c'⟩
theorem l1Spoil_eq (b : List Int) (i h op r x y z : Int) (c : Cur b i) : ∃ op' r' x' y' z' i' h', spec_l1Spoil.f b i h op r x y z = some (op', r', x', y', z', i', h') ∧ Cur b i' := by
  obtain ⟨o, i1, h1, e1, _, c1⟩ := l1Below_eq b i h 8 c
  unfold spec_l1Spoil.f
  rw [e1]
  simp only [Option.bind_some]
  by_cases o0 : o = 0
  · obtain ⟨w, i7, h7, e7, _, c7⟩ := l1Below_eq b i1 h1 16 c1
    rw [if_pos o0, e7]; exact ⟨_, _, _, _, _, _, _, rfl, c7⟩
  by_cases o1 : o = 1
  · obtain ⟨w, i7, h7, e7, _, c7⟩ := l1Below_eq b i1 h1 6 c1
    rw [if_neg o0, if_pos o1, e7]; exact ⟨_, _, _, _, _, _, _, rfl, c7⟩
  by_cases o2 : o = 2
  · obtain ⟨w, i7, h7, e7, _, c7⟩ := l1Below_eq b i1 h1 6 c1
    rw [if_neg o0, if_neg o1, if_pos o2, e7]; exact ⟨_, _, _, _, _, _, _, rfl, c7⟩
  by_cases o3 : o = 3
  · obtain ⟨w, i7, h7, e7, _, c7⟩ := l1Below_eq b i1 h1 6 c1
    rw [if_neg o0, if_neg o1, if_neg o2, if_pos o3, e7]; exact ⟨_, _, _, _, _, _, _, rfl, c7⟩
  by_cases o4 : o = 4
  · obtain ⟨w, i7, h7, e7, _, c7⟩ := l1PickInt_eq b i1 h1 [(-1), 0, 3, 23, 24, 1000000000, 1000000001] (by simp) c1
    rw [if_neg o0, if_neg o1, if_neg o2, if_neg o3, if_pos o4, e7]; exact ⟨_, _, _, _, _, _, _, rfl, c7⟩
  rw [if_neg o0, if_neg o1, if_neg o2, if_neg o3, if_neg o4]; exact ⟨_, _, _, _, _, _, _, rfl, c1⟩
theorem sD (b : List Int) (i h y0 y1 y2 y3 y4 : Int) (c : Cur b i) : DE (fun _ => spec_l1Spoil.f b i h y0 y1 y2 y3 y4) (fun r => Cur b r.2.2.2.2.2.1) := by
  obtain ⟨_, _, _, _, _, _, _, e, c'⟩ := l1Spoil_eq b i h y0 y1 y2 y3 y4 c
  exact ⟨_, Ev.all fun _ => e, c'⟩
theorem dB (b : List Int) (i h n : Int) (c : Cur b i) : DE (fun k => spec_l1DrawBody.f k b i h n) (fun r => Cur b r.2.1 ∧ 0 < r.1.length ∧ r.1.length ≤ 11) := by
  simp only [spec_l1DrawBody.f]
  refine DE.bind (bD _ _ _ _ c) ?_
  rintro ⟨x, i1, h1⟩ ⟨c1, _, _, _⟩
  dsimp only at *
  refine DE.bind (bD _ _ _ _ c1) ?_
  rintro ⟨y, i2, h2⟩ ⟨c2, _, _, _⟩
  dsimp only at *
  refine DE.bind (bD _ _ _ _ c2) ?_
  rintro ⟨z, i3, h3⟩ ⟨c3, _, _, _⟩
  dsimp only at *
  refine DE.ite (fun _ => DE.now ⟨c3, by simp, by simp⟩) (fun _ => ?_)
  refine DE.ite (fun _ => DE.now ⟨c3, by simp, by simp⟩) (fun _ => ?_)
  refine DE.ite (fun _ => DE.now ⟨c3, by simp, by simp⟩) (fun _ => ?_)
  refine DE.ite (fun _ => DE.now ⟨c3, by simp, by simp⟩) (fun _ => ?_)
  refine DE.bind (bD _ _ _ _ c3) ?_
  rintro ⟨q, i4, h4⟩ ⟨c4, q0, q1, _⟩
  dsimp only at *
  have q1' := q1 (by omega)
  obtain ⟨N, rfl⟩ := Int.eq_ofNat_of_zero_le q0
  rw [wrap_in (by omega) (by omega)]
  have key : ∀ d (j : Nat) i h (l : List S66), j + d = N + 2 → l.length = j → Cur b i → DE (fun k => spec_l1DrawBody.l0 k n (2 + (N : Int)) l (j : Int) b i h) (fun r => Cur b r.2.1 ∧ 0 < r.1.length ∧ r.1.length ≤ 11) := by
    intro d
    induction d with
    | zero =>
      intro j i h l hj hl c
      refine DE.step (fun k => by rw [spec_l1DrawBody.l0]) ?_
      refine DE.neg (by omega) ?_
      refine DE.bind (pD _ _ _ _ (by simp) c) ?_
      rintro ⟨_, _, _⟩ ⟨c2, _⟩
      dsimp only at *
      refine DE.pos (by omega) (DE.now ?_)
      dsimp only
      exact ⟨c2, by simp, by simp; omega⟩
    | succ d ih =>
      intro j i h l hj hl c
      refine DE.step (fun k => by rw [spec_l1DrawBody.l0]) ?_
      refine DE.pos (by omega) ?_
      refine DE.bind (iD _ _ _ _ _ c) ?_
      rintro ⟨_, _, _, _, _, _, _⟩ c2
      dsimp only at *
      refine DE.pos (by omega) ?_
      rw [wrapS (n := 99) (by omega) (by omega)]
      exact ih (j + 1) _ _ _ (by omega) (by simp [hl]) c2
  exact key (N + 2) 0 i4 h4 [] (by omega) rfl c4
def inn (a lo hi : Int) : Bool := decide (lo ≤ a ∧ a ≤ hi)
theorem spec_l1In_eq (a lo hi : Int) : spec_l1In.f a lo hi = some (inn a lo hi) := by
  unfold spec_l1In.f inn
  by_cases h : a ≥ lo
  · rw [if_pos h]; congr 1; simp; omega
  · rw [if_neg h, decide_eq_false (by omega)]
theorem impl_within_eq (a lo hi : Int) : impl_within.f a lo hi = some (inn a lo hi) := by
  unfold impl_within.f inn
  by_cases h : a ≥ lo
  · rw [if_pos h]; congr 1; simp; omega
  · rw [if_neg h, decide_eq_false (by omega)]
def InsR (op r a b n p c : Int) : Prop :=
  (0 ≤ r ∧ r ≤ 3) ∧ (0 ≤ a ∧ a ≤ 3) ∧ (0 ≤ b ∧ b ≤ 3) ∧ (0 ≤ c ∧ c ≤ 3) ∧
  ((op = 1 ∧ (-1000000000 ≤ n ∧ n ≤ 1000000000) ∧ a = 0 ∧ b = 0) ∨ ((op = 2 ∨ op = 3 ∨ op = 4) ∧ n = 0) ∨ (op = 5 ∧ (0 ≤ n ∧ n < c) ∧ r = 0 ∧ b = 0) ∨
   ((op = 6 ∨ op = 8) ∧ (0 ≤ n ∧ n < c) ∧ a = 0 ∧ r ≠ b) ∨ (op = 7 ∧ (0 ≤ n ∧ n < c) ∧ b = 0) ∨ (op = 9 ∧ (0 ≤ n ∧ n < c) ∧ r = 0 ∧ a = 0 ∧ b = 0) ∨ (op = 10 ∧ r = 0 ∧ b = 0 ∧ n = 0) ∨
   (op = 11 ∧ (0 ≤ n ∧ n < p) ∧ r = 0 ∧ a = 0 ∧ b = 0) ∨ (op = 12 ∧ (0 ≤ n ∧ n < p) ∧ r = 0 ∧ b = 0) ∨ (op = 13 ∧ r = 0 ∧ a = 0 ∧ b = 0 ∧ n = 0))
instance (op r a b n p c : Int) : Decidable (InsR op r a b n p c) := by unfold InsR; infer_instance
def insOk (op r a b n p c : Int) : Bool := decide (InsR op r a b n p c)
theorem op_cases (op : Int) : op = 1 ∨ op = 2 ∨ op = 3 ∨ op = 4 ∨ op = 5 ∨ op = 6 ∨ op = 7 ∨ op = 8 ∨ op = 9 ∨ op = 10 ∨ op = 11 ∨ op = 12 ∨ op = 13 ∨ (op < 1 ∨ 13 < op) := by omega
theorem wrap_pred {p : Int} (h0 : -9223372036854775807 ≤ p) (h1 : p ≤ 9223372036854775807) : wrap64 (p - 1) = p - 1 := wrap_in (by omega) (by omega)
theorem spec_InsOk_ev (op r a b n p c : Int) : Ev (fun k => spec_InsOk.f k op r a b n p c) (insOk op r a b n p c) := by
  refine ⟨5, fun k hk => ?_⟩
  obtain ⟨m, rfl⟩ : ∃ m, k = m + 5 := ⟨k - 5, by omega⟩
  by_cases hcc : 0 ≤ c ∧ c ≤ 3
  case neg =>
    have h' : ¬ InsR op r a b n p c := by unfold InsR; omega
    simp only [spec_InsOk.f, spec_InsOk.j0, spec_l1In_eq, Option.bind_some, inn, insOk, decide_eq_false hcc, decide_eq_false h', Bool.not_false, if_true]
    repeat' split
    all_goals rfl
  have hc : -9223372036854775807 ≤ c := by omega
  have hc' : c ≤ 9223372036854775807 := by omega
  simp only [spec_InsOk.f, spec_InsOk.j0, spec_InsOk.j1, spec_InsOk.j2, spec_InsOk.j3, spec_l1In_eq, Option.bind_some, inn, insOk, decide_eq_true_eq, wrap_pred hc hc']
  rcases op_cases op with rfl | rfl | rfl | rfl | rfl | rfl | rfl | rfl | rfl | rfl | rfl | rfl | rfl | h
  case inr.inr.inr.inr.inr.inr.inr.inr.inr.inr.inr.inr.inr =>
    have h' : ¬ InsR op r a b n p c := by unfold InsR; omega
    have h4 : (op == 4) = false := by simpa using (show ¬ op = 4 by omega)
    have h8 : (op == 8) = false := by simpa using (show ¬ op = 8 by omega)
    simp only [if_neg (show ¬ op = 1 by omega), if_neg (show ¬ op = 2 by omega), if_neg (show ¬ op = 3 by omega), if_neg (show ¬ op = 5 by omega), if_neg (show ¬ op = 6 by omega), if_neg (show ¬ op = 7 by omega), if_neg (show ¬ op = 9 by omega), if_neg (show ¬ op = 10 by omega), if_neg (show ¬ op = 11 by omega), if_neg (show ¬ op = 12 by omega), if_neg (show ¬ op = 13 by omega), decide_eq_false h', h4, h8, Bool.false_eq_true, if_false]
    repeat' split
    all_goals rfl
  all_goals
    simp only [InsR]
    simp
    repeat' split
    all_goals first
      | (congr 1; rw [Bool.eq_iff_iff]; simp; omega)
      | (simp; omega)
theorem impl_isReg_eq (a : Int) : impl_isReg.f a = some (inn a 0 3) := by simp [impl_isReg.f, impl_within_eq]
theorem impl_ofChan_eq (a : Int) : impl_ofChan.f a = some (inn a 5 9) := by simp [impl_ofChan.f, impl_within_eq]
theorem impl_InsOk_ev (op r a b n p c : Int) (hp : -9223372036854775807 ≤ p) (hp' : p ≤ 9223372036854775807) : Ev (fun k => impl_InsOk.f k op r a b n p c) (insOk op r a b n p c) := by
  refine ⟨8, fun k hk => ?_⟩
  obtain ⟨m, rfl⟩ : ∃ m, k = m + 8 := ⟨k - 8, by omega⟩
  by_cases hcc : 0 ≤ c ∧ c ≤ 3
  case neg =>
    have h' : ¬ InsR op r a b n p c := by unfold InsR; omega
    simp only [impl_InsOk.f, impl_InsOk.j0, impl_within_eq, Option.bind_some, inn, insOk, decide_eq_false hcc, decide_eq_false h', Bool.false_eq_true, if_false, if_true]
  have hc : -9223372036854775807 ≤ c := by omega
  have hc' : c ≤ 9223372036854775807 := by omega
  simp only [impl_InsOk.f, impl_InsOk.j0, impl_InsOk.j1, impl_InsOk.j2, impl_named.f, impl_named.j0, impl_named.j1, impl_named.j2, impl_named.j3, impl_isReg_eq, impl_ofChan_eq, impl_within_eq, Option.bind_some, inn, insOk, decide_eq_true_eq, wrap_pred hc hc', wrap_pred hp hp']
  rcases op_cases op with rfl | rfl | rfl | rfl | rfl | rfl | rfl | rfl | rfl | rfl | rfl | rfl | rfl | h
  case inr.inr.inr.inr.inr.inr.inr.inr.inr.inr.inr.inr.inr =>
    have h' : ¬ InsR op r a b n p c := by unfold InsR; omega
    simp only [if_neg (show ¬ (1 ≤ op ∧ op ≤ 13) by omega), decide_eq_false h', if_true]
    repeat' split
    all_goals rfl
  all_goals
    simp only [InsR]
    simp
    repeat' split
    all_goals first
      | (congr 1; rw [Bool.eq_iff_iff]; simp; omega)
      | (simp; omega)
def insIn (p c : Int) (x : S66) : Bool := insOk x.f0 x.f1 x.f2 x.f3 x.f4 p c
def lastOk (l : List S66) : Bool := decide ((l.getD (l.length - 1) z66).f0 = 13 ∨ (l.getD (l.length - 1) z66).f0 = 11)
def bodyOk (l : List S66) (c : Int) : Bool := l.all (insIn (l.length : Int) c) && (inn (l.length : Int) 1 24 && inn c 0 3 && lastOk l)
theorem rd_ins (l : List S66) (j : Nat) (h : j < l.length) : rd_T66 l (j : Int) = l[j] := by simp [rd_T66, List.getD_eq_getElem?_getD, h]
theorem last_ok (l : List S66) : (if (l.getD (l.length - 1) z66).f0 = 13 then some true else some ((l.getD (l.length - 1) z66).f0 == 11)) = some (lastOk l) := by
  unfold lastOk
  generalize (l.getD (l.length - 1) z66).f0 = q
  by_cases h : q = 13
  · rw [if_pos h, decide_eq_true (.inl h)]
  · rw [if_neg h]
    congr 1
    rw [Bool.eq_iff_iff]
    simp [h]
theorem rd_last (l : List S66) (h : 1 ≤ l.length) : rd_T66 l ((l.length : Int) - 1) = l.getD (l.length - 1) z66 := by
  rw [rd_T66, show ((l.length : Int) - 1).toNat = l.length - 1 by omega]
theorem spec_BodyOk_ev (l : List S66) (c : Int) (hl : l.length ≤ 1048576) : Ev (fun k => spec_BodyOk.f k l c) (bodyOk l c) := by
  refine all_loop (L := fun j k => spec_BodyOk.l0 k l c (l.length : Int) (j : Int)) l (insIn (l.length : Int) c) ?_ (fun j hj hp r ih => ?_) (fun j hj hp => ?_)
  · refine Ev.one fun k => ?_
    simp only [spec_BodyOk.l0, spec_l1In_eq, Option.bind_some]
    rw [if_neg (by omega)]
    by_cases h1 : inn (l.length : Int) 1 24 = true
    · have h1' : 1 ≤ (l.length : Int) := by simp only [inn, decide_eq_true_eq] at h1; exact h1.1
      by_cases h2 : inn c 0 3 = true
      · rw [if_pos h1, if_pos h2, wrap_in (by omega) (by omega), if_pos (by omega), if_pos (by omega), rd_last l (by omega), last_ok, h1, h2]
        rfl
      · rw [if_pos h1, if_neg h2, h1, show inn c 0 3 = false by simpa using h2]
        rfl
    · rw [if_neg h1, show inn (l.length : Int) 1 24 = false by simpa using h1]
      rfl
  · refine Ev.step (fun k => by simp only [spec_BodyOk.l0]; rw [if_pos (by omega), if_pos (by omega), if_pos (by omega), rd_ins l j hj]) (Ev.bind (spec_InsOk_ev _ _ _ _ _ _ _) ?_)
    refine Ev.ite_pos hp ?_
    rw [wrapS hj (by omega)]
    exact ih
  · refine Ev.step (fun k => by simp only [spec_BodyOk.l0]; rw [if_pos (by omega), if_pos (by omega), if_pos (by omega), rd_ins l j hj]) (Ev.bind (spec_InsOk_ev _ _ _ _ _ _ _) ?_)
    exact Ev.ite_neg (fun e => by have e' : insIn (l.length : Int) c l[j] = true := e; rw [hp] at e'; cases e') (Ev.now _)
theorem impl_BodyOk_ev (l : List S66) (c : Int) (hl : l.length ≤ 1048576) : Ev (fun k => impl_BodyOk.f k l c) (bodyOk l c) := by
  simp only [impl_BodyOk.f, impl_within_eq, Option.bind_some]
  by_cases h2 : inn c 0 3 = true
  · have h2' : 0 ≤ c ∧ c ≤ 3 := by simpa [inn] using h2
    refine Ev.ite_pos h2 ?_
    by_cases h1 : inn (l.length : Int) 1 24 = true
    · have h1' : 1 ≤ (l.length : Int) := by simp only [inn, decide_eq_true_eq] at h1; exact h1.1
      rw [h1]
      refine Ev.step (fun k => by rw [impl_BodyOk.j0, if_neg (by simp)]) ?_
      refine Ev.val (r := l.all (insIn (l.length : Int) c) && lastOk l) (by unfold bodyOk; rw [h1, h2]; simp) ?_
      refine all_loop (L := fun j k => impl_BodyOk.l0 k l c l (l.length : Int) (j : Int)) l (insIn (l.length : Int) c) ?_ (fun j hj hp r ih => ?_) (fun j hj hp => ?_)
      · refine Ev.one fun k => ?_
        simp only [impl_BodyOk.l0]
        rw [if_neg (by omega), wrap_in (by omega) (by omega), if_pos (by omega), if_pos (by omega), rd_last l (by omega), last_ok]
      · refine Ev.step (fun k => by simp only [impl_BodyOk.l0]; rw [if_pos (by omega), if_pos (by omega), if_pos (by omega), rd_ins l j hj]) (Ev.bind (impl_InsOk_ev _ _ _ _ _ _ _ (by omega) (by omega)) ?_)
        refine Ev.ite_pos hp ?_
        rw [wrapS hj (by omega)]
        exact ih
      · refine Ev.step (fun k => by simp only [impl_BodyOk.l0]; rw [if_pos (by omega), if_pos (by omega), if_pos (by omega), rd_ins l j hj]) (Ev.bind (impl_InsOk_ev _ _ _ _ _ _ _ (by omega) (by omega)) ?_)
        exact Ev.ite_neg (fun e => by have e' : insIn (l.length : Int) c l[j] = true := e; rw [hp] at e'; cases e') (Ev.now _)
    · have h1' : inn (l.length : Int) 1 24 = false := by simpa using h1
      rw [h1']
      refine Ev.one fun k => ?_
      rw [impl_BodyOk.j0, if_pos (by simp), bodyOk, h1']
      simp
  · have h2' : inn c 0 3 = false := by simpa using h2
    refine Ev.ite_neg h2 ?_
    refine Ev.one fun k => ?_
    rw [impl_BodyOk.j0, if_pos rfl, bodyOk, h2']
    simp
def capOk (c : Int) : Bool := inn c 1 4
def progOk (cs : List Int) (bs : List (List S66)) : Bool := cs.all capOk && (bs.all (fun b => bodyOk b (cs.length : Int)) && (decide ((cs.length : Int) ≤ 3) && inn (bs.length : Int) 1 4))
theorem rd_body (m : List (List S66)) (j : Nat) (h : j < m.length) : rd_L3 m (j : Int) = m[j] := by simp [rd_L3, List.getD_eq_getElem?_getD, h]
theorem impl_capsOk_ev (l : List Int) (h : l.length ≤ 9223372036854775807) : Ev (fun k => impl_capsOk.f k l) (l.all capOk) := by
  have key := count_up (L := fun j k => impl_capsOk.l0 k l (l.length : Int) (j : Int)) (R := fun j => allFrom capOk l j) (n := l.length)
    (Ev.one fun k => by simp [impl_capsOk.l0, allFrom_end])
    (fun j hj ih => by
      by_cases e : capOk l[j] = true
      · exact Ev.step (fun k => by
          simp only [impl_capsOk.l0]
          rw [if_pos (by omega), if_pos (by omega), if_pos (by omega), rd_get hj, impl_within_eq, Option.bind_some, show inn l[j] 1 4 = true from e, if_pos rfl, wrapS hj (by omega)]) (by rw [allFrom_step hj, e, Bool.true_and]; exact ih)
      · refine Ev.one fun k => ?_
        simp only [impl_capsOk.l0]
        rw [if_pos (by omega), if_pos (by omega), if_pos (by omega), rd_get hj, impl_within_eq, Option.bind_some, if_neg (show ¬ inn l[j] 1 4 = true from e), allFrom_step hj]
        simp [e])
  exact key 0 (Nat.zero_le _)
theorem spec_ProgOk_ev (cs : List Int) (bs : List (List S66)) (hc : cs.length ≤ 1048576) (hb : bs.length ≤ 1048576) (hbs : ∀ b ∈ bs, b.length ≤ 1048576) : Ev (fun k => spec_ProgOk.f k cs bs) (progOk cs bs) := by
  refine all_loop (L := fun j k => spec_ProgOk.l0 k (j : Int) cs bs) cs capOk ?_ (fun j hj hp r ih => ?_) (fun j hj hp => ?_)
  · refine Ev.step (f := fun k => spec_ProgOk.l1 k 0 cs bs) (fun k => by simp only [spec_ProgOk.l0]; rw [if_neg (by omega)]) ?_
    refine all_loop (L := fun j k => spec_ProgOk.l1 k (j : Int) cs bs) bs (fun b => bodyOk b (cs.length : Int)) ?_ (fun j hj hp r ih => ?_) (fun j hj hp => ?_)
    · refine Ev.one fun k => ?_
      simp only [spec_ProgOk.l1, spec_l1In_eq, Option.bind_some]
      rw [if_neg (by omega)]
      by_cases h : (cs.length : Int) ≤ 3
      · rw [if_pos h, decide_eq_true h, Bool.true_and]
      · rw [if_neg h, decide_eq_false h, Bool.false_and]
    · refine Ev.step (fun k => by simp only [spec_ProgOk.l1]; rw [if_pos (by omega), if_pos (by omega), rd_body bs j hj]) (Ev.bind (spec_BodyOk_ev _ _ (hbs _ (List.getElem_mem hj))) ?_)
      refine Ev.ite_pos hp ?_
      rw [wrapS hj (by omega)]
      exact ih
    · refine Ev.step (fun k => by simp only [spec_ProgOk.l1]; rw [if_pos (by omega), if_pos (by omega), rd_body bs j hj]) (Ev.bind (spec_BodyOk_ev _ _ (hbs _ (List.getElem_mem hj))) ?_)
      exact Ev.ite_neg (by rw [hp]; simp) (Ev.now _)
  · refine Ev.step (fun k => by simp only [spec_ProgOk.l0, spec_l1In_eq, Option.bind_some]; rw [if_pos (by omega), if_pos (by omega), rd_get hj, if_pos (show inn cs[j] 1 4 = true from hp), wrapS hj (by omega)]) ih
  · refine Ev.one fun k => ?_
    simp only [spec_ProgOk.l0, spec_l1In_eq, Option.bind_some]
    rw [if_pos (by omega), if_pos (by omega), rd_get hj, if_neg (fun e => by have e' : capOk cs[j] = true := e; rw [hp] at e'; cases e')]
theorem impl_ProgOk_ev (cs : List Int) (bs : List (List S66)) (hc : cs.length ≤ 1048576) (hb : bs.length ≤ 1048576) (hbs : ∀ b ∈ bs, b.length ≤ 1048576) : Ev (fun k => impl_ProgOk.f k cs bs) (progOk cs bs) := by
  refine Ev.val (r := bs.all (fun b => bodyOk b (cs.length : Int)) && (decide ((cs.length : Int) ≤ 3) && (cs.all capOk && inn (bs.length : Int) 1 4))) (by
    unfold progOk
    cases cs.all capOk <;> cases bs.all (fun b => bodyOk b (cs.length : Int)) <;> cases decide ((cs.length : Int) ≤ 3) <;> rfl) ?_
  refine all_loop (L := fun j k => impl_ProgOk.l0 k bs (bs.length : Int) (j : Int) cs bs) bs (fun b => bodyOk b (cs.length : Int)) ?_ (fun j hj hp r ih => ?_) (fun j hj hp => ?_)
  · by_cases h : (cs.length : Int) ≤ 3
    · refine Ev.step (fun k => by simp only [impl_ProgOk.l0, impl_within_eq, Option.bind_some]; rw [if_neg (by omega), if_pos h]) (Ev.bind (impl_capsOk_ev cs (by omega)) ?_)
      rw [decide_eq_true h, Bool.true_and]
      by_cases hp : cs.all capOk = true
      · rw [hp]
        exact Ev.ite_pos rfl (Ev.now _)
      · rw [show cs.all capOk = false by simpa using hp]
        exact Ev.ite_neg (by simp) (Ev.now _)
    · refine Ev.one fun k => ?_
      simp only [impl_ProgOk.l0]
      rw [if_neg (by omega), if_neg h, decide_eq_false h, Bool.false_and]
  · refine Ev.step (fun k => by simp only [impl_ProgOk.l0]; rw [if_pos (by omega), if_pos (by omega), if_pos (by omega), rd_body bs j hj]) (Ev.bind (impl_BodyOk_ev _ _ (hbs _ (List.getElem_mem hj))) ?_)
    refine Ev.ite_pos hp ?_
    rw [wrapS hj (by omega)]
    exact ih
  · refine Ev.step (fun k => by simp only [impl_ProgOk.l0]; rw [if_pos (by omega), if_pos (by omega), if_pos (by omega), rd_body bs j hj]) (Ev.bind (impl_BodyOk_ev _ _ (hbs _ (List.getElem_mem hj))) ?_)
    exact Ev.ite_neg (by rw [hp]; simp) (Ev.now _)
theorem dR (b : List Int) (i h : Int) (c : Cur b i) : DE (fun k => spec_l1DrawRight.f k b i h) (fun r => Cur b r.2.2.1 ∧ (0 < r.1.length ∧ r.1.length ≤ 3) ∧ (0 < r.2.1.length ∧ r.2.1.length ≤ 4) ∧ ∀ m ∈ r.2.1, 0 < m.length ∧ m.length ≤ 11) := by
  simp only [spec_l1DrawRight.f]
  refine DE.bind (bD _ _ _ _ c) ?_
  rintro ⟨q, i1, h1⟩ ⟨c1, q0, q1, _⟩
  dsimp only at *
  have q1' := q1 (by omega)
  obtain ⟨N, rfl⟩ := Int.eq_ofNat_of_zero_le q0
  rw [wrap_in (by omega) (by omega)]
  have key1 : ∀ d (j : Nat) i h (cs : List Int) (l : List (List S66)), j + d = 4 → l.length = j → (0 < cs.length ∧ cs.length ≤ 3) → (∀ m ∈ l, 0 < m.length ∧ m.length ≤ 11) → Cur b i → DE (fun k => spec_l1DrawRight.l1 k (1 + (N : Int)) (j : Int) b i h cs l) (fun r => Cur b r.2.2.1 ∧ (0 < r.1.length ∧ r.1.length ≤ 3) ∧ (0 < r.2.1.length ∧ r.2.1.length ≤ 4) ∧ ∀ m ∈ r.2.1, 0 < m.length ∧ m.length ≤ 11) := by
    intro d
    induction d with
    | zero =>
      intro j i h cs l hj hl hc hm c
      refine DE.step (fun k => by rw [spec_l1DrawRight.l1]) ?_
      refine DE.bind (bD _ _ _ _ c) ?_
      rintro ⟨x, i2, h2⟩ ⟨c2, x0, x1, _⟩
      dsimp only at *
      have x1' := x1 (by omega)
      rw [wrap_in (n := 1 + x) (by omega) (by omega)]
      refine DE.neg (by omega) (DE.now ?_)
      exact ⟨c2, hc, ⟨by dsimp only; omega, by dsimp only; omega⟩, hm⟩
    | succ d ih =>
      intro j i h cs l hj hl hc hm c
      refine DE.step (fun k => by rw [spec_l1DrawRight.l1]) ?_
      refine DE.bind (bD _ _ _ _ c) ?_
      rintro ⟨x, i2, h2⟩ ⟨c2, x0, x1, _⟩
      dsimp only at *
      have x1' := x1 (by omega)
      rw [wrap_in (n := 1 + x) (by omega) (by omega)]
      refine DE.ite (fun _ => ?_) (fun hn => DE.now ?_)
      · refine DE.bind (dB _ _ _ _ c2) ?_
        rintro ⟨y, i3, h3⟩ ⟨c3, y0, y1⟩
        dsimp only at *
        refine DE.pos (by omega) ?_
        rw [wrapS (n := 99) (by omega) (by omega)]
        refine ih (j + 1) _ _ _ _ (by omega) (by simp [hl]) hc ?_ c3
        intro m hm'
        rcases List.mem_append.1 hm' with e | e
        · exact hm m e
        · obtain rfl : m = y := by simpa using e
          exact ⟨y0, y1⟩
      · exact ⟨c2, hc, ⟨by dsimp only; omega, by dsimp only; omega⟩, hm⟩
  have key : ∀ d (j : Nat) i h (cs : List Int), j + d = N + 1 → cs.length = j → Cur b i → DE (fun k => spec_l1DrawRight.l0 k (1 + (N : Int)) (j : Int) b i h cs) (fun r => Cur b r.2.2.1 ∧ (0 < r.1.length ∧ r.1.length ≤ 3) ∧ (0 < r.2.1.length ∧ r.2.1.length ≤ 4) ∧ ∀ m ∈ r.2.1, 0 < m.length ∧ m.length ≤ 11) := by
    intro d
    induction d with
    | zero =>
      intro j i h cs hj hl c
      refine DE.step (fun k => by rw [spec_l1DrawRight.l0]) ?_
      refine DE.neg (by omega) ?_
      exact key1 4 0 i h cs [] (by omega) rfl (by omega) (by simp) c
    | succ d ih =>
      intro j i h cs hj hl c
      refine DE.step (fun k => by rw [spec_l1DrawRight.l0]) ?_
      refine DE.pos (by omega) ?_
      refine DE.bind (bD _ _ _ _ c) ?_
      rintro ⟨x, i2, h2⟩ ⟨c2, x0, x1, _⟩
      dsimp only at *
      refine DE.pos (by omega) ?_
      rw [wrapS (n := 99) (by omega) (by omega)]
      exact ih (j + 1) _ _ _ (by omega) (by simp [hl]) c2
  exact key (N + 1) 0 i1 h1 [] (by omega) rfl c1
theorem dP (b : List Int) (i h : Int) (c : Cur b i) : DE (fun k => spec_l1Draw.f k b i h) (fun r => Cur b r.2.2.1 ∧ r.1.length ≤ 6 ∧ r.2.1.length ≤ 4 ∧ ∀ m ∈ r.2.1, m.length ≤ 11) := by
  simp only [spec_l1Draw.f]
  refine DE.bind (dR _ _ _ c) ?_
  rintro ⟨cs, bs, i1, h1⟩ ⟨c1, ⟨l0, l1⟩, ⟨m0, m1⟩, hm⟩
  dsimp only at *
  have hm' : ∀ m ∈ bs, m.length ≤ 11 := fun m e => (hm m e).2
  refine DE.bind (bD _ _ _ _ c1) ?_
  rintro ⟨x, i2, h2⟩ ⟨c2, _, _, _⟩
  dsimp only at *
  refine DE.ite (fun _ => ?_) (fun _ => DE.ite (fun _ => ?_) (fun _ => DE.ite (fun _ => ?_) (fun _ => DE.ite (fun _ => ?_) (fun _ => ?_))))
  · refine DE.bind (pD _ _ _ _ (by simp) c2) ?_
    rintro ⟨_, _, _⟩ ⟨c3, _⟩
    dsimp only at *
    exact DE.pos (by omega) (DE.now ⟨c3, by simp; omega, by dsimp only; omega, hm'⟩)
  · refine DE.pos (by omega) ?_
    have e0 : rd_L3 bs 0 = bs[0] := by
      have := rd_body bs 0 m0
      simpa using this
    rw [e0]
    have hb := hm bs[0] (List.getElem_mem _)
    refine DE.pos (by omega) ?_
    refine DE.bind (sD _ _ _ _ _ _ _ _ c2) ?_
    rintro ⟨_, _, _, _, _, _, _⟩ c3
    refine DE.now ⟨c3, by dsimp only; omega, by simp; omega, ?_⟩
    intro m e
    rcases List.mem_or_eq_of_mem_set e with e | e
    · exact hm' m e
    · rw [e]; simp; omega
  · exact DE.now ⟨c2, by dsimp only; omega, by simp, by simp⟩
  · simp only [Option.bind_some]
    exact DE.pos (by simp; omega) (DE.now ⟨c2, by simp; omega, by dsimp only; omega, hm'⟩)
  · exact DE.now ⟨c2, by dsimp only; omega, by dsimp only; omega, hm'⟩
theorem drawProgOk_de (code : List Int) (hc : code.length ≤ 1048576) : DE (fun k => spec_DrawProgOk.f k code) (fun r => r.1.length ≤ 6 ∧ r.2.length ≤ 4 ∧ ∀ m ∈ r.2, m.length ≤ 11) := by
  simp only [spec_DrawProgOk.f]
  refine DE.bind (l1New_de code hc) ?_
  rintro ⟨b, i, h⟩ ⟨e, c⟩
  dsimp only at *
  subst e
  refine DE.bind (dP _ _ _ c) ?_
  rintro ⟨cs, bs, i1, h1⟩ ⟨c1, h⟩
  exact DE.now h
theorem insIn_more {p q c d : Int} (h : p ≤ q) (h' : c ≤ d) (hd : d ≤ 3) {op r a b n : Int} (e : insOk op r a b n p c = true) : insOk op r a b n q d = true := by
  unfold insOk at *
  rw [decide_eq_true_eq] at *
  obtain ⟨h1, h2, h3, h4, h5⟩ := e
  refine ⟨h1, h2, h3, by omega, ?_⟩
  rcases h5 with h | h | ⟨ho, ⟨hn, hp⟩, hr⟩ | ⟨ho, ⟨hn, hp⟩, hr⟩ | ⟨ho, ⟨hn, hp⟩, hr⟩ | ⟨ho, ⟨hn, hp⟩, hr⟩ | h | ⟨ho, ⟨hn, hp⟩, hr⟩ | ⟨ho, ⟨hn, hp⟩, hr⟩ | h
  · exact .inl h
  · exact .inr (.inl h)
  · exact .inr (.inr (.inl ⟨ho, ⟨hn, by omega⟩, hr⟩))
  · exact .inr (.inr (.inr (.inl ⟨ho, ⟨hn, by omega⟩, hr⟩)))
  · exact .inr (.inr (.inr (.inr (.inl ⟨ho, ⟨hn, by omega⟩, hr⟩))))
  · exact .inr (.inr (.inr (.inr (.inr (.inl ⟨ho, ⟨hn, by omega⟩, hr⟩)))))
  · exact .inr (.inr (.inr (.inr (.inr (.inr (.inl h))))))
  · exact .inr (.inr (.inr (.inr (.inr (.inr (.inr (.inl ⟨ho, ⟨hn, by omega⟩, hr⟩)))))))
  · exact .inr (.inr (.inr (.inr (.inr (.inr (.inr (.inr (.inl ⟨ho, ⟨hn, by omega⟩, hr⟩))))))))
  · exact .inr (.inr (.inr (.inr (.inr (.inr (.inr (.inr (.inr h))))))))
theorem drawInsOk_de (code : List Int) (hc : code.length ≤ 1048576) : DE (fun k => spec_DrawInsOk.f k code) (fun r => r.2.2.2.2.2.1 = 8 ∧ -1 ≤ r.2.2.2.2.2.2 ∧ r.2.2.2.2.2.2 ≤ 4) := by
  have hp : ∀ x : Int, x ∈ [2, 2, 3, 0, 4, (-1)] → -1 ≤ x ∧ x ≤ 4 := by
    intro x hx
    simp at hx
    omega
  simp only [spec_DrawInsOk.f]
  refine DE.bind (l1New_de code hc) ?_
  rintro ⟨b, i, h⟩ ⟨e, c⟩
  dsimp only at *
  subst e
  refine DE.bind (iD _ _ _ _ _ c) ?_
  rintro ⟨_, _, _, _, _, _, _⟩ c1
  dsimp only at *
  refine DE.bind (oD _ _ _ _ c1) ?_
  rintro ⟨_, _, _⟩ c2
  dsimp only at *
  refine DE.ite (fun _ => ?_) (fun _ => ?_)
  · refine DE.bind (sD _ _ _ _ _ _ _ _ c2) ?_
    rintro ⟨_, _, _, _, _, _, _⟩ c3
    dsimp only at *
    refine DE.bind (pD _ _ _ _ (by simp) c3) ?_
    rintro ⟨x, _, _⟩ ⟨c4, hx⟩
    exact DE.now ⟨rfl, hp x hx⟩
  · refine DE.bind (pD _ _ _ _ (by simp) c2) ?_
    rintro ⟨x, _, _⟩ ⟨c4, hx⟩
    exact DE.now ⟨rfl, hp x hx⟩
theorem drawBodyOk_j0 (b : List Int) (i h : Int) (l : List S66) (hl : l.length ≤ 11) (c : Cur b i) : DE (fun k => spec_DrawBodyOk.j0 k l b i h) (fun r => r.1.length ≤ 25) := by
  have key : ∀ d (j : Nat) i h (l : List S66), j + d = 25 → l.length = j → Cur b i → DE (fun k => spec_DrawBodyOk.l0 k l b i h) (fun r => r.1.length ≤ 25) := by
    intro d
    induction d with
    | zero =>
      intro j i h l hj hl c
      refine DE.step (fun k => by rw [spec_DrawBodyOk.l0]) ?_
      refine DE.bind (bD _ _ _ _ c) ?_
      rintro ⟨x, i2, h2⟩ ⟨c2, x0, x1, _⟩
      dsimp only at *
      have x1' := x1 (by omega)
      rw [wrap_in (n := 24 + x) (by omega) (by omega)]
      refine DE.neg (by omega) ?_
      refine DE.bind (pD _ _ _ _ (by simp) c2) ?_
      rintro ⟨x, _, _⟩ ⟨c4, hx⟩
      exact DE.now (by dsimp only; omega)
    | succ d ih =>
      intro j i h l hj hl c
      refine DE.step (fun k => by rw [spec_DrawBodyOk.l0]) ?_
      refine DE.bind (bD _ _ _ _ c) ?_
      rintro ⟨x, i2, h2⟩ ⟨c2, x0, x1, _⟩
      dsimp only at *
      have x1' := x1 (by omega)
      rw [wrap_in (n := 24 + x) (by omega) (by omega)]
      refine DE.ite (fun _ => ?_) (fun _ => ?_)
      · refine DE.pos (by omega) ?_
        exact ih (j + 1) _ _ _ (by omega) (by simp [hl]) c2
      · refine DE.bind (pD _ _ _ _ (by simp) c2) ?_
        rintro ⟨x, _, _⟩ ⟨c4, hx⟩
        exact DE.now (by dsimp only; omega)
  refine DE.step (fun k => by rw [spec_DrawBodyOk.j0]) ?_
  refine DE.bind (oD _ _ _ _ c) ?_
  rintro ⟨_, _, _⟩ c2
  dsimp only at *
  refine DE.ite (fun _ => ?_) (fun _ => ?_)
  · exact key (25 - l.length) l.length _ _ l (by omega) rfl c2
  · refine DE.bind (pD _ _ _ _ (by simp) c2) ?_
    rintro ⟨x, _, _⟩ ⟨c4, hx⟩
    exact DE.now (by dsimp only; omega)
theorem drawBodyOk_de (code : List Int) (hc : code.length ≤ 1048576) : DE (fun k => spec_DrawBodyOk.f k code) (fun r => r.1.length ≤ 25) := by
  simp only [spec_DrawBodyOk.f]
  refine DE.bind (l1New_de code hc) ?_
  rintro ⟨b, i, h⟩ ⟨e, c⟩
  dsimp only at *
  subst e
  refine DE.bind (dB _ _ _ _ c) ?_
  rintro ⟨l, _, _⟩ ⟨c1, l0, l1⟩
  dsimp only at *
  refine DE.bind (oD _ _ _ _ c1) ?_
  rintro ⟨_, _, _⟩ c2
  dsimp only at *
  refine DE.ite (fun _ => ?_) (fun _ => drawBodyOk_j0 _ _ _ l l1 c2)
  refine DE.bind (bD _ _ _ _ c2) ?_
  rintro ⟨x, i2, h2⟩ ⟨c3, x0, x1, _⟩
  dsimp only at *
  have x1' := x1 (by omega)
  refine DE.pos x0 (DE.pos x1' ?_)
  refine DE.bind (sD _ _ _ _ _ _ _ _ c3) ?_
  rintro ⟨_, _, _, _, _, _, _⟩ c4
  exact drawBodyOk_j0 _ _ _ _ (by simp; omega) c4
theorem fnRight_j1 (l : List S66) (n : Int) (hl : l.length ≤ 25) : Ev (fun k => laws_FnRight.j1 k l n (bodyOk l n) false) true := by
  refine Ev.step (fun k => by rw [laws_FnRight.j1]) ?_
  refine Ev.ite_neg (by simp) ?_
  have last : ∀ j : Int, Ev (fun k => laws_FnRight.j3 k l n (bodyOk l n) j false) true := fun j => Ev.one fun k => by rw [laws_FnRight.j3, if_neg (by simp)]
  refine count_up (L := fun j k => laws_FnRight.l0 k l n (bodyOk l n) (j : Int)) (R := fun _ => true) (n := l.length) ?_ ?_ 0 (Nat.zero_le _)
  · exact Ev.step (fun k => by rw [laws_FnRight.l0, if_neg (by omega)]) (last _)
  · intro j hj ih
    refine Ev.step (fun k => by rw [laws_FnRight.l0, if_pos (by omega)]) ?_
    by_cases h : bodyOk l n = true
    · refine Ev.step (f := fun k => _) (fun k => by rw [laws_FnRight.j3, if_pos h, if_pos (by omega), if_pos (by omega), rd_ins l j hj]) ?_
      refine Ev.bind (impl_InsOk_ev _ _ _ _ _ _ _ (by omega) (by omega)) ?_
      have hs : insIn (l.length : Int) n l[j] = true := by
        unfold bodyOk at h
        simp only [Bool.and_eq_true, List.all_eq_true] at h
        exact h.1 _ (List.getElem_mem _)
      refine Ev.ite_pos hs ?_
      rw [wrapS hj (by omega)]
      exact ih
    · rw [show bodyOk l n = false by simpa using h] at last ⊢
      exact last _
theorem FnRight (x0 : (List Int)) (ok0 : (x0.length ≤ maxLen ∧ ∀ z ∈ x0, ((Lit.int .u8 z).wf = true))) : ∃ k, laws_FnRight.f k x0 = some true := by
  have hl := ok0.1
  unfold maxLen at hl
  refine Ev.rounds (g := fun k => laws_FnRight.f k x0) ?_
  simp only [laws_FnRight.f, laws_big.f, Option.bind_some, decide_eq_true_eq]
  by_cases hb : (x0.length : Int) > 1048576
  · exact Ev.ite_pos hb (Ev.now _)
  refine Ev.ite_neg hb ?_
  obtain ⟨⟨op, r, a, b, n, p, q⟩, e1, rfl, q0, q1⟩ := drawInsOk_de x0 (by omega)
  obtain ⟨⟨l, m⟩, e2, ll⟩ := drawBodyOk_de x0 (by omega)
  obtain ⟨⟨cs, bs⟩, e3, lc, lb, lm⟩ := drawProgOk_de x0 (by omega)
  dsimp only at *
  refine Ev.bind e1 ?_
  dsimp only
  refine Ev.bind (impl_InsOk_ev _ _ _ _ _ _ _ (by omega) (by omega)) ?_
  refine Ev.bind e2 ?_
  dsimp only
  refine Ev.bind (impl_BodyOk_ev l m (by omega)) ?_
  refine Ev.bind e3 ?_
  dsimp only
  refine Ev.bind (spec_InsOk_ev _ _ _ _ _ _ _) ?_
  refine Ev.ite_neg (by simp) ?_
  refine Ev.bind (spec_BodyOk_ev l m (by omega)) ?_
  refine Ev.ite_neg (by simp) ?_
  refine Ev.bind (impl_ProgOk_ev cs bs (by omega) (by omega) (fun b h => by have := lm b h; omega)) ?_
  refine Ev.bind (spec_ProgOk_ev cs bs (by omega) (by omega) (fun b h => by have := lm b h; omega)) ?_
  refine Ev.step (fun k => by rw [laws_FnRight.j0]) ?_
  refine Ev.ite_neg (by simp) ?_
  by_cases h : insOk op r a b n 8 q = true
  · refine Ev.ite_pos h ?_
    rw [wrap_in (n := (8 : Int) + 1) (by omega) (by omega), wrap_in (n := q + 1) (by omega) (by omega)]
    refine Ev.bind (impl_InsOk_ev _ _ _ _ _ _ _ (by omega) (by omega)) ?_
    have hq : q ≤ 3 := by
      unfold insOk at h
      rw [decide_eq_true_eq] at h
      exact h.2.2.2.1.2
    refine Ev.ite_pos (insIn_more (by omega) (by omega) hq h) ?_
    by_cases h3 : q < 3
    · refine Ev.ite_pos h3 ?_
      refine Ev.bind (impl_InsOk_ev _ _ _ _ _ _ _ (by omega) (by omega)) ?_
      rw [insIn_more (by omega) (by omega) (by omega) h]
      exact fnRight_j1 l m ll
    · exact Ev.ite_neg h3 (fnRight_j1 l m ll)
  · exact Ev.ite_neg h (fnRight_j1 l m ll)
end Go.Proofs.Ytpefeaiglkkkoab.Pure
namespace Go.Proofs.Ytpefeaiglkkkoab.Rd
open Go.RowKit Go.Proofs.YtpefeaiglkkkoabW.PrintWords Go.ChangeShapes Go.WideShapes
set_option linter.unusedVariables false
def Opens {α : Type} (P : Program) (t : TypeId) (d : Kd α) (ok : α → Prop) : Prop :=
  ∀ (H : Type) (enc : TypeId × Value → H) (w : World) (base : Nat) (spare : Nat → Bool) (held : Bool) (fuel : Nat) (cs : List Value) (x : DataW H × List MemPlace),
    DataW.trod enc P w base spare held fuel t cs = some x → ∃ y, d.K w y cs ∧ ok y
theorem Opens.int {P : Program} {t : TypeId} {k : IntKind} (ht : P.underlying t = some (.int k)) : Opens P t (Kd.int k) (fun n => (Lit.int k n).wf = true) := by
  intro H enc w base spare held fuel cs x h
  obtain ⟨n, rfl, _, hw⟩ := DataW.trod_int ht h
  exact ⟨n, rfl, hw⟩
theorem Opens.bool {P : Program} {t : TypeId} (ht : P.underlying t = some .bool) : Opens P t Kd.bool (fun _ => True) := by
  intro H enc w base spare held fuel cs x h
  obtain ⟨n, rfl, _⟩ := DataW.trod_bool ht h
  exact ⟨n, rfl, trivial⟩
theorem list_of {α : Type} {Q : Nat → α → Prop} : ∀ n : Nat, (∀ i, i < n → ∃ y, Q i y) → ∃ ys : List α, ys.length = n ∧ ∀ i y, ys[i]? = some y → Q i y := by
  intro n
  induction n with
  | zero => exact fun _ => ⟨[], rfl, fun i y h => by simp at h⟩
  | succ n ih =>
    intro h
    obtain ⟨ys, hl, hq⟩ := ih (fun i hi => h i (by omega))
    obtain ⟨y, hy⟩ := h n (by omega)
    refine ⟨ys ++ [y], by simp [hl], fun i z hz => ?_⟩
    rcases Nat.lt_or_ge i ys.length with hi | hi
    · rw [List.getElem?_append_left hi] at hz
      exact hq i z hz
    · rw [List.getElem?_append_right hi] at hz
      have h0 : i - ys.length = 0 := by
        have := (List.getElem?_eq_some_iff.1 hz).1
        simp at this
        omega
      rw [h0] at hz
      simp at hz
      subst hz
      have : i = n := by omega
      rw [this]
      exact hy
theorem Opens.slice {α : Type} {P : Program} {t e : TypeId} (q : Nat) {d : Kd α} {ok : α → Prop} (ht : P.underlying t = some (.slice e)) (hs : P.cellsOf e = d.sz) (he : Opens P e d ok) :
    Opens P t (Kd.slice q d) (fun xs => xs.length ≤ maxLen ∧ ∀ x ∈ xs, ok x) := by
  intro H enc w base spare held fuel cs x h
  rcases DataW.trod_slice ht h with ⟨rfl, _⟩ | ⟨a, len, cap, elems, rest, n, _, rfl, _, _, hl, hm, hlen, hel, _, _⟩
  · exact ⟨[], ⟨none, 0, rfl, Nat.le_refl _, rfl, by simp, fun hp => absurd hp (by simp)⟩, by simp, by simp⟩
  · have each : ∀ i, i < len → ∃ y, ∃ c, w.cells? base (a.add (i * d.sz)) d.sz = some c ∧ d.K w y c ∧ ok y := by
      intro i hi
      have h1 := hel i hi
      rw [List.getElem?_eq_getElem (by omega), Option.bind_eq_some_iff, hs] at h1
      obtain ⟨c, hc, hx⟩ := h1
      obtain ⟨y, hy, ho⟩ := he H enc w base spare held n c _ hx
      exact ⟨y, c, hc, hy, ho⟩
    obtain ⟨ys, hyl, hq⟩ := list_of len each
    have hm' : len ≤ 9223372036854775807 := by unfold maxLen at hm; omega
    refine ⟨ys, ⟨some a, cap, by rw [hyl], by omega, rfl, by omega, fun _ => ⟨a, rfl, fun j p hj => ?_⟩⟩, by omega, fun y hy => ?_⟩
    · obtain ⟨c, hc, hk, _⟩ := hq j p hj
      obtain ⟨_, hcl, hcell⟩ := World.cells?_some hc
      refine ⟨c, hcl, hk, fun i u hu => ?_⟩
      have hi : i < d.sz := by
        have := (List.getElem?_eq_some_iff.1 hu).1
        omega
      rw [← Addr.add_add, hcell i hi, hu]
    · obtain ⟨i, hi⟩ := List.getElem?_of_mem hy
      obtain ⟨c, _, _, ho⟩ := hq i y hi
      exact ho
def OpensAt {α : Type} (P : Program) (fs : List Field) (off : Nat) (d : Kd α) (ok : α → Prop) : Prop :=
  ∀ (H : Type) (enc : TypeId × Value → H) (w : World) (base : Nat) (spare : Nat → Bool) (held : Bool) (n : Nat) (cs : List Value), cs.length = off + d.sz →
    (∀ f ∈ fs, ∃ y, DataW.trod enc P w base spare held n f.type ((cs.drop f.offset).take (P.cellsOf f.type)) = some y) → ∃ y, d.K w y (cs.drop off) ∧ ok y
theorem OpensAt.one {α : Type} {P : Program} {f : Field} {off : Nat} {d : Kd α} {ok : α → Prop} (ho : f.offset = off) (hs : P.cellsOf f.type = d.sz) (h : Opens P f.type d ok) : OpensAt P [f] off d ok := by
  intro H enc w base spare held n cs hl hf
  obtain ⟨x, hx⟩ := hf f (by simp)
  rw [ho, hs, List.take_of_length_le (by simp; omega)] at hx
  exact h _ _ _ _ _ _ _ _ _ hx
theorem OpensAt.cons {α β : Type} {P : Program} {f : Field} {fs : List Field} {off : Nat} {a : Kd α} {b : Kd β} {oka : α → Prop} {okb : β → Prop} (ho : f.offset = off) (hs : P.cellsOf f.type = a.sz) (h : Opens P f.type a oka)
    (hr : OpensAt P fs (off + a.sz) b okb) : OpensAt P (f :: fs) off (Kd.pair a b) (fun x => oka x.1 ∧ okb x.2) := by
  intro H enc w base spare held n cs hl hf
  obtain ⟨x, hx⟩ := hf f (by simp)
  rw [ho, hs] at hx
  obtain ⟨y, hy, oy⟩ := h _ _ _ _ _ _ _ _ _ hx
  have hl' : cs.length = (off + a.sz) + b.sz := by rw [hl]; show off + (a.sz + b.sz) = _; omega
  obtain ⟨z, hz, oz⟩ := hr H enc w base spare held n cs hl' (fun g hg => hf g (by simp [hg]))
  refine ⟨(y, z), ⟨_, _, ?_, hy, hz⟩, oy, oz⟩
  rw [← List.drop_drop]
  exact (List.take_append_drop _ _).symm
theorem Opens.struct {α : Type} {P : Program} {t : TypeId} {fs : List Field} {d : Kd α} {ok : α → Prop} (ht : P.underlying t = some (.struct (List.toArray fs))) (hs : P.cellsOf t = d.sz) (h : OpensAt P fs 0 d ok) : Opens P t d ok := by
  intro H enc w base spare held fuel cs x hx
  obtain ⟨xs, n, _, _, hl, hlen, hf⟩ := DataW.trod_struct ht hx
  obtain ⟨y, hy, oy⟩ := h H enc w base spare held n cs (by omega) (fun f hm => by
    obtain ⟨i, hi⟩ := List.getElem?_of_mem hm
    have hi' : (List.toArray fs)[i]? = some f := by simpa using hi
    have h1 := hf i f hi'
    have hlt : i < xs.length := by
      have := (Array.getElem?_eq_some_iff.1 hi').1
      omega
    rw [List.getElem?_eq_getElem hlt] at h1
    exact ⟨_, h1⟩)
  exact ⟨y, by simpa using hy, oy⟩
theorem Opens.iso {α β : Type} {P : Program} {t : TypeId} {d : Kd α} {ok : α → Prop} (f : β → α) (g : α → β) (hg : ∀ x, f (g x) = x) (h : Opens P t d ok) : Opens P t (Kd.iso d f) (fun y => ok (f y)) := by
  intro H enc w base spare held fuel cs x hx
  obtain ⟨y, hy, o⟩ := h H enc w base spare held fuel cs x hx
  refine ⟨g y, ?_, ?_⟩
  · show d.K w (f (g y)) cs
    rw [hg]
    exact hy
  · show ok (f (g y))
    rw [hg]
    exact o
theorem Opens.at_slice {α : Type} {P : Program} {t : TypeId} {q : Nat} {d : Kd α} {ok : List α → Prop} (h : Opens P t (Kd.slice q d) ok) {H : Type} {enc : TypeId × Value → H} {w : World} {base : Nat} {spare : Nat → Bool} {held : Bool} {v : Value} {x : DataW H} {ps : List MemPlace}
    {e : TypeId} {r : Reach} {b0 : Nat} (hu : P.underlying t = some (.slice e)) (hv : Value.okWide P w r b0 t v) (hx : DataW.Trod enc P w base spare held t v x ps) : ∃ xs A c, v = .slice A xs.length c ∧ xs.length ≤ c ∧ d.C w A xs.length xs ∧ ok xs := by
  obtain ⟨a, len, cap, rfl⟩ := okWide_slice hu hv
  obtain ⟨fuel, hf⟩ := hx
  obtain ⟨xs, ⟨A, c, hcs, hl, hC⟩, o⟩ := h _ _ _ _ _ _ _ _ _ hf
  refine ⟨xs, A, c, ?_, hl, hC, o⟩
  simpa [Value.cells] using hcs
end Go.Proofs.Ytpefeaiglkkkoab.Rd
