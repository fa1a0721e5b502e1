/- What a drawn place reads and sets is what the reference says, at most two registers, its own: the printed law's function is true for all codes. -/
import Derived.Test.YtpefeaiglkkkoaaPFnSetsx5
import Derived.Test.YtpefeaiglkkkoaaLp
namespace Go.Proofs.Ytpefeaiglkkkoaa.Pure
open Go.RowKit Go.Proofs.Ytpefeaiglkkkoaa.PFnSets Go.Proofs.YtpefeaiglkkkoaaW.PrintWords Go.Proofs.YtpefeaiglkkkoaaW.PrintLast Go.Proofs.Ytpefeaiglkkkoaa.Lp
set_option linter.unusedVariables false
set_option linter.unusedSimpArgs false

theorem sameInts_ev (a b : List Int) (h : a.length ≤ 9223372036854775807) : Ev (fun k => laws_sameInts.f k a b) (decide (a = b)) := by
  by_cases hl : a.length = b.length
  · have key := count_up (L := fun j k => laws_sameInts.l0 k a b (j : Int)) (R := fun j => agree a b j) (n := a.length)
      (Ev.one fun k => by simp [laws_sameInts.l0, agree_end hl])
      (fun j hj ih => by
        by_cases e : a[j] = b[j]
        · exact Ev.step (fun k => by
            simp only [laws_sameInts.l0]
            rw [if_pos (by omega), if_pos (by omega), if_pos (by omega), if_pos (by rw [rd_get hj, rd_get (by omega), e]), wrapS hj (by omega)]) (by rw [agree_step hj (by omega) e]; exact ih)
        · exact Ev.one fun k => by
            simp only [laws_sameInts.l0]
            rw [if_pos (by omega), if_pos (by omega), if_pos (by omega), if_neg (by rw [rd_get hj, rd_get (by omega)]; exact e), agree_no hj (by omega) e])
    refine Ev.congr (fun k => ?_) (key 0 (Nat.zero_le _))
    unfold laws_sameInts.f
    rw [if_pos (by omega)]
    rfl
  · refine Ev.all fun k => ?_
    unfold laws_sameInts.f
    rw [if_neg (by omega), decide_eq_false (fun e => hl (by rw [e]))]
theorem sameInts_self (a : List Int) (h : a.length ≤ 9223372036854775807) : Ev (fun k => laws_sameInts.f k a a) true := by
  have := sameInts_ev a a h
  simpa using this

theorem and255 (n : Int) : Go.bits .and .i64 n 255 = n % 256 := by
  have h : (BitVec.ofInt 64 255).toNat = 2 ^ 8 - 1 := by decide
  have key : (BitVec.ofInt 64 n &&& BitVec.ofInt 64 255).toNat = (n % ((2 ^ 64 : Nat) : Int)).toNat % 2 ^ 8 := by
    rw [BitVec.toNat_and, BitVec.toNat_ofInt, h, Nat.and_two_pow_sub_one_eq_mod]
  show IntKind.i64.wrap ((BitVec.ofInt 64 n &&& BitVec.ofInt 64 255).toNat : Nat) = n % 256
  rw [key, IntKind.wrap_i64]
  omega
/-- Where a cursor may stand. -/
def Cur (b : List Int) (i : Int) : Prop := 0 ≤ i ∧ i ≤ (b.length : Int) ∧ (b.length : Int) ≤ 1048576
theorem l1Byte_eq (b : List Int) (i h : Int) (c : Cur b i) : ∃ x i' h', spec_l1Byte.f b i h = some (x, i', h') ∧ (0 ≤ x ∧ x ≤ 255) ∧ Cur b i' := by
  obtain ⟨c0, c1, c2⟩ := c
  unfold spec_l1Byte.f
  by_cases e : i < (b.length : Int)
  · rw [if_pos e, if_pos c0, and255, wrap_in (n := i + 1) (by omega) (by omega)]
    exact ⟨_, _, _, rfl, by omega, by omega, by omega, c2⟩
  · rw [if_neg e, and255]
    exact ⟨_, _, _, rfl, by omega, c0, c1, c2⟩
theorem l1Below_eq (b : List Int) (i h n : Int) (c : Cur b i) : ∃ x i' h', spec_l1Below.f b i h n = some (x, i', h') ∧ (0 ≤ x ∧ (0 < n → x < n) ∧ (n ≤ 0 → x = 0)) ∧ Cur b i' := by
  unfold spec_l1Below.f
  by_cases h0 : n ≤ 0
  · rw [if_pos h0]
    exact ⟨_, _, _, rfl, ⟨by omega, by omega, fun _ => rfl⟩, c⟩
  · rw [if_neg h0]
    obtain ⟨x1, i1, h1, e1, b1, c1⟩ := l1Byte_eq b i h c
    by_cases h2 : n ≤ 256
    · rw [if_pos h2, e1]
      simp only [Option.bind_some]
      rw [if_neg (by omega)]
      exact ⟨_, _, _, rfl, ⟨Int.tmod_nonneg _ (by omega), fun _ => Int.tmod_lt_of_pos _ (by omega), fun h => absurd h h0⟩, c1⟩
    · obtain ⟨x2, i2, h2', e2, b2, c2⟩ := l1Byte_eq b i1 h1 c1
      obtain ⟨x3, i3, h3', e3, b3, c3⟩ := l1Byte_eq b i2 h2' c2
      obtain ⟨x4, i4, h4', e4, b4, c4⟩ := l1Byte_eq b i3 h3' c3
      rw [if_neg h2, e1]
      simp only [Option.bind_some, e2, e3, e4]
      rw [if_neg (by omega), wrap_in (n := x1 * 16777216) (by omega) (by omega), wrap_in (n := x2 * 65536) (by omega) (by omega), wrap_in (n := x3 * 256) (by omega) (by omega), wrap_in (n := x1 * 16777216 + x2 * 65536) (by omega) (by omega), wrap_in (n := x1 * 16777216 + x2 * 65536 + x3 * 256) (by omega) (by omega), wrap_in (by omega) (by omega)]
      exact ⟨_, _, _, rfl, ⟨Int.tmod_nonneg _ (by omega), fun _ => Int.tmod_lt_of_pos _ (by omega), fun h => absurd h h0⟩, c4⟩
theorem l1New_ev (b : List Int) (hb : b.length ≤ 1048576) : ∃ h, Ev (fun k => spec_l1New.f k b) (b, 0, h) ∧ Cur b 0 := by
  have key : ∀ d j h, j + d = min b.length 4000 → ∃ h', Ev (fun k => spec_l1New.l0 k b h (j : Int)) (b, 0, h') := by
    intro d
    induction d with
    | zero =>
      intro j h hj
      refine ⟨h, Ev.one fun k => ?_⟩
      simp only [spec_l1New.l0]
      by_cases c : (j : Int) < (b.length : Int)
      · rw [if_pos c, if_neg (by omega)]
      · rw [if_neg c]
    | succ d ih =>
      intro j h hj
      obtain ⟨h', e⟩ := ih (j + 1) _ (by omega)
      exact ⟨h', Ev.step (fun k => by
        simp only [spec_l1New.l0]
        rw [if_pos (by omega), if_pos (by omega), if_pos (by omega), wrapS (n := b.length) (by omega) (by omega)]) e⟩
  obtain ⟨h', e⟩ := key _ 0 _ (Nat.zero_add _)
  exact ⟨h', e, by omega, by omega, by omega⟩

theorem l1Once_eq (b : List Int) (i h n : Int) (c : Cur b i) : ∃ (x : Bool) (i' h' : Int), spec_l1Once.f b i h n = some (x, i', h') ∧ Cur b i' := by
  obtain ⟨x, i', h', e, _, c'⟩ := l1Below_eq b i h n c
  exact ⟨_, _, _, by unfold spec_l1Once.f; rw [e]; rfl, c'⟩

theorem l1PickInt_eq (b : List Int) (i h : Int) (l : List Int) (hl : 0 < l.length) (c : Cur b i) : ∃ x i' h', spec_l1PickInt.f b i h l = some (x, i', h') ∧ x ∈ l ∧ Cur b i' := by
  obtain ⟨x, i', h', e, ⟨h0, h1, _⟩, c'⟩ := l1Below_eq b i h (l.length : Int) c
  have h1' := h1 (by omega)
  refine ⟨_, _, _, by unfold spec_l1PickInt.f; rw [e]; simp only [Option.bind_some]; rw [if_pos h0, if_pos h1'], ?_, c'⟩
  obtain ⟨j, rfl⟩ := Int.eq_ofNat_of_zero_le h0
  rw [rd_get (by omega)]
  exact List.getElem_mem _

theorem l1Max_ev (a b : Int) : ∃ m, spec_l1Max.f a b = some m ∧ a ≤ m ∧ b ≤ m ∧ (m = a ∨ m = b) := by
  unfold spec_l1Max.f
  by_cases h : a > b
  · exact ⟨a, if_pos h, by omega, by omega, Or.inl rfl⟩
  · exact ⟨b, if_neg h, by omega, by omega, Or.inr rfl⟩
theorem l1DrawIns_ev (b : List Int) (i h n m : Int) (c : Cur b i) : ∃ op r x y z i' h', Ev (fun k => spec_l1DrawIns.f k b i h n m) (op, r, x, y, z, i', h') ∧ Cur b i' := by
  obtain ⟨r, i1, h1, e1, _, c1⟩ := l1Below_eq b i h 4 c
  obtain ⟨x, i2, h2, e2, _, c2⟩ := l1Below_eq b i1 h1 4 c1
  obtain ⟨y, i3, h3, e3, _, c3⟩ := l1Below_eq b i2 h2 4 c2
  obtain ⟨mm, em, _⟩ := l1Max_ev m 1
  obtain ⟨z, i4, h4, e4, _, c4⟩ := l1Below_eq b i3 h3 mm c3
  obtain ⟨o, i5, h5, e5, _, c5⟩ := l1Below_eq b i4 h4 16 c4
  have k3 : ∀ q, ∃ op r' x' y' z' i' h', Ev (fun k => spec_l1DrawIns.j3 k n r x z o q b i5 h5) (op, r', x', y', z', i', h') ∧ Cur b i' := by
    intro q
    cases q with
    | true => exact ⟨_, _, _, _, _, _, _, Ev.one fun k => by simp only [spec_l1DrawIns.j3, if_true]; rfl, c5⟩
    | false =>
      by_cases o10 : o = 10
      · exact ⟨_, _, _, _, _, _, _, Ev.one fun k => by simp only [spec_l1DrawIns.j3, Bool.false_eq_true, if_false, if_pos o10]; rfl, c5⟩
      by_cases o11 : o = 11
      · exact ⟨_, _, _, _, _, _, _, Ev.one fun k => by simp only [spec_l1DrawIns.j3, Bool.false_eq_true, if_false, if_neg o10, if_pos o11]; rfl, c5⟩
      by_cases o12 : o = 12
      · obtain ⟨q, i6, h6, e6, c6⟩ := l1Once_eq b i5 h5 3 c5
        cases q with
        | true => exact ⟨_, _, _, _, _, _, _, Ev.one fun k => by simp only [spec_l1DrawIns.j3, Bool.false_eq_true, if_false, if_neg o10, if_neg o11, if_pos o12, e6, Option.bind_some, if_true]; rfl, c6⟩
        | false =>
          obtain ⟨w, i7, h7, e7, _, c7⟩ := l1Below_eq b i6 h6 n c6
          exact ⟨_, _, _, _, _, _, _, Ev.one fun k => by simp only [spec_l1DrawIns.j3, Bool.false_eq_true, if_false, if_neg o10, if_neg o11, if_pos o12, e6, e7, Option.bind_some]; rfl, c7⟩
      by_cases o13 : o = 13
      · obtain ⟨w, i7, h7, e7, _, c7⟩ := l1Below_eq b i5 h5 n c5
        exact ⟨_, _, _, _, _, _, _, Ev.one fun k => by simp only [spec_l1DrawIns.j3, Bool.false_eq_true, if_false, if_neg o10, if_neg o11, if_neg o12, if_pos o13, e7, Option.bind_some]; rfl, c7⟩
      exact ⟨_, _, _, _, _, _, _, Ev.one fun k => by simp only [spec_l1DrawIns.j3, Bool.false_eq_true, if_false, if_neg o10, if_neg o11, if_neg o12, if_neg o13]; rfl, c5⟩
  have k2 : ∀ q, ∃ op r' x' y' z' i' h', Ev (fun k => spec_l1DrawIns.j2 k n r x z o q b i5 h5) (op, r', x', y', z', i', h') ∧ Cur b i' := by
    intro q
    cases q with
    | true => exact ⟨_, _, _, _, _, _, _, Ev.one fun k => by simp only [spec_l1DrawIns.j2, if_true]; rfl, c5⟩
    | false =>
      by_cases o7 : o = 7
      · obtain ⟨_, _, _, _, _, _, _, e, c'⟩ := k3 (o == 7)
        exact ⟨_, _, _, _, _, _, _, Ev.step (fun k => by simp only [spec_l1DrawIns.j2, Bool.false_eq_true, if_false, if_pos o7]) e, c'⟩
      by_cases o8 : o = 8
      · obtain ⟨_, _, _, _, _, _, _, e, c'⟩ := k3 (o == 8)
        exact ⟨_, _, _, _, _, _, _, Ev.step (fun k => by simp only [spec_l1DrawIns.j2, Bool.false_eq_true, if_false, if_neg o7, if_pos o8]) e, c'⟩
      obtain ⟨_, _, _, _, _, _, _, e, c'⟩ := k3 (o == 9)
      exact ⟨_, _, _, _, _, _, _, Ev.step (fun k => by simp only [spec_l1DrawIns.j2, Bool.false_eq_true, if_false, if_neg o7, if_neg o8]) e, c'⟩
  have k1 : ∀ q, ∃ op r' x' y' z' i' h', Ev (fun k => spec_l1DrawIns.j1 k n r x y z o q b i5 h5) (op, r', x', y', z', i', h') ∧ Cur b i' := by
    intro q
    cases q with
    | true =>
      obtain ⟨w, i7, h7, e7, _, c7⟩ := l1Below_eq b i5 h5 3 c5
      exact ⟨_, _, _, _, _, _, _, Ev.one fun k => by simp only [spec_l1DrawIns.j1, if_true, e7, Option.bind_some]; rfl, c7⟩
    | false =>
      by_cases o4 : o = 4
      · obtain ⟨_, _, _, _, _, _, _, e, c'⟩ := k2 (o == 4)
        exact ⟨_, _, _, _, _, _, _, Ev.step (fun k => by simp only [spec_l1DrawIns.j1, Bool.false_eq_true, if_false, if_pos o4]) e, c'⟩
      by_cases o5 : o = 5
      · obtain ⟨_, _, _, _, _, _, _, e, c'⟩ := k2 (o == 5)
        exact ⟨_, _, _, _, _, _, _, Ev.step (fun k => by simp only [spec_l1DrawIns.j1, Bool.false_eq_true, if_false, if_neg o4, if_pos o5]) e, c'⟩
      obtain ⟨_, _, _, _, _, _, _, e, c'⟩ := k2 (o == 6)
      exact ⟨_, _, _, _, _, _, _, Ev.step (fun k => by simp only [spec_l1DrawIns.j1, Bool.false_eq_true, if_false, if_neg o4, if_neg o5]) e, c'⟩
  have k0 : ∀ q, ∃ op r' x' y' z' i' h', Ev (fun k => spec_l1DrawIns.j0 k n r x y z o q b i5 h5) (op, r', x', y', z', i', h') ∧ Cur b i' := by
    intro q
    cases q with
    | true =>
      obtain ⟨w, i7, h7, e7, _, c7⟩ := l1Below_eq b i5 h5 9 c5
      exact ⟨_, _, _, _, _, _, _, Ev.one fun k => by simp only [spec_l1DrawIns.j0, if_true, e7, Option.bind_some]; rfl, c7⟩
    | false =>
      by_cases o2 : o = 2
      · obtain ⟨_, _, _, _, _, _, _, e, c'⟩ := k1 (o == 2)
        exact ⟨_, _, _, _, _, _, _, Ev.step (fun k => by simp only [spec_l1DrawIns.j0, Bool.false_eq_true, if_false, if_pos o2]) e, c'⟩
      obtain ⟨_, _, _, _, _, _, _, e, c'⟩ := k1 (o == 3)
      exact ⟨_, _, _, _, _, _, _, Ev.step (fun k => by simp only [spec_l1DrawIns.j0, Bool.false_eq_true, if_false, if_neg o2]) e, c'⟩
  by_cases o0 : o = 0
  · obtain ⟨_, _, _, _, _, _, _, e, c'⟩ := k0 (o == 0)
    exact ⟨_, _, _, _, _, _, _, Ev.congr (fun k => by simp only [spec_l1DrawIns.f, e1, e2, e3, em, e4, e5, Option.bind_some, if_pos o0]) e, c'⟩
  · obtain ⟨_, _, _, _, _, _, _, e, c'⟩ := k0 (o == 1)
    exact ⟨_, _, _, _, _, _, _, Ev.congr (fun k => by simp only [spec_l1DrawIns.f, e1, e2, e3, em, e4, e5, Option.bind_some, if_neg o0]) e, c'⟩

theorem l1Spoil_eq (b : List Int) (i h op r x y z : Int) (c : Cur b i) : ∃ op' r' x' y' z' i' h', spec_l1Spoil.f b i h op r x y z = some (op', r', x', y', z', i', h') ∧ Cur b i' := by
  obtain ⟨o, i1, h1, e1, _, c1⟩ := l1Below_eq b i h 8 c
  unfold spec_l1Spoil.f
  rw [e1]
  simp only [Option.bind_some]
  by_cases o0 : o = 0
  · obtain ⟨w, i7, h7, e7, _, c7⟩ := l1Below_eq b i1 h1 16 c1
    rw [if_pos o0, e7]; exact ⟨_, _, _, _, _, _, _, rfl, c7⟩
  by_cases o1 : o = 1
  · obtain ⟨w, i7, h7, e7, _, c7⟩ := l1Below_eq b i1 h1 6 c1
    rw [if_neg o0, if_pos o1, e7]; exact ⟨_, _, _, _, _, _, _, rfl, c7⟩
  by_cases o2 : o = 2
  · obtain ⟨w, i7, h7, e7, _, c7⟩ := l1Below_eq b i1 h1 6 c1
    rw [if_neg o0, if_neg o1, if_pos o2, e7]; exact ⟨_, _, _, _, _, _, _, rfl, c7⟩
  by_cases o3 : o = 3
  · obtain ⟨w, i7, h7, e7, _, c7⟩ := l1Below_eq b i1 h1 6 c1
    rw [if_neg o0, if_neg o1, if_neg o2, if_pos o3, e7]; exact ⟨_, _, _, _, _, _, _, rfl, c7⟩
  by_cases o4 : o = 4
  · obtain ⟨w, i7, h7, e7, _, c7⟩ := l1PickInt_eq b i1 h1 [(-1), 0, 3, 23, 24, 1000000000, 1000000001] (by simp) c1
    rw [if_neg o0, if_neg o1, if_neg o2, if_neg o3, if_pos o4, e7]; exact ⟨_, _, _, _, _, _, _, rfl, c7⟩
  rw [if_neg o0, if_neg o1, if_neg o2, if_neg o3, if_neg o4]; exact ⟨_, _, _, _, _, _, _, rfl, c1⟩
theorem l1DrawOne_ev (code : List Int) (hc : code.length ≤ 1048576) : ∃ op r x y z, Ev (fun k => spec_l1DrawOne.f k code) (op, r, x, y, z) := by
  obtain ⟨h, e0, c0⟩ := l1New_ev code hc
  obtain ⟨op, r, x, y, z, i1, h1, e1, c1⟩ := l1DrawIns_ev code 0 h 8 2 c0
  obtain ⟨q, i2, h2, e2, c2⟩ := l1Once_eq code i1 h1 3 c1
  obtain ⟨op', r', x', y', z', i3, h3, e3, c3⟩ := l1Spoil_eq code i2 h2 op r x y z c2
  cases q with
  | true =>
    refine ⟨op', r', x', y', z', ?_⟩
    simp only [spec_l1DrawOne.f]
    refine Ev.bind e0 ?_
    refine Ev.bind e1 ?_
    simp only [e2, e3, Option.bind_some, if_true]
    exact Ev.now _
  | false =>
    refine ⟨op, r, x, y, z, ?_⟩
    simp only [spec_l1DrawOne.f]
    refine Ev.bind e0 ?_
    refine Ev.bind e1 ?_
    simp only [e2, Option.bind_some, Bool.false_eq_true, if_false]
    exact Ev.now _

/-- The registers that a place takes; that it sets. -/
def readsOf (op r a b n : Int) : List Int := if op = 2 ∨ op = 3 ∨ op = 4 then [a, b] else if op = 5 ∨ op = 7 ∨ op = 10 ∨ op = 12 then [a] else []
def setsOf (op r a b n : Int) : List Int := if op = 1 ∨ op = 2 ∨ op = 3 ∨ op = 4 ∨ op = 7 then [r] else if op = 6 ∨ op = 8 then [r, b] else []
theorem readsOf_length (op r a b n : Int) : (readsOf op r a b n).length ≤ 2 := by
  unfold readsOf
  repeat' split
  all_goals simp
theorem setsOf_length (op r a b n : Int) : (setsOf op r a b n).length ≤ 2 := by
  unfold setsOf
  repeat' split
  all_goals simp

theorem impl_Reads_ev (op r a b n : Int) : Ev (fun k => impl_Reads.f k op r a b n) (readsOf op r a b n) := by
  refine ⟨1, fun k hk => ?_⟩
  obtain ⟨m, rfl⟩ : ∃ m, k = m + 1 := ⟨k - 1, by omega⟩
  simp only [impl_Reads.f, impl_Reads.j0, readsOf]
  by_cases h2 : op = 2
  · subst h2; simp
  by_cases h3 : op = 3
  · subst h3; simp
  by_cases h4 : op = 4
  · subst h4; simp
  by_cases h5 : op = 5
  · subst h5; simp
  by_cases h7 : op = 7
  · subst h7; simp
  by_cases h10 : op = 10
  · subst h10; simp
  by_cases h12 : op = 12
  · subst h12; simp
  simp [h2, h3, h4, h5, h7, h10, h12]

theorem impl_Sets_ev (op r a b n : Int) : Ev (fun k => impl_Sets.f k op r a b n) (setsOf op r a b n) := by
  refine ⟨1, fun k hk => ?_⟩
  obtain ⟨m, rfl⟩ : ∃ m, k = m + 1 := ⟨k - 1, by omega⟩
  simp only [impl_Sets.f, impl_Sets.j0, setsOf]
  by_cases h1 : op = 1
  · subst h1; simp
  by_cases h2 : op = 2
  · subst h2; simp
  by_cases h3 : op = 3
  · subst h3; simp
  by_cases h4 : op = 4
  · subst h4; simp
  by_cases h7 : op = 7
  · subst h7; simp
  by_cases h6 : op = 6
  · subst h6; simp
  by_cases h8 : op = 8
  · subst h8; simp
  simp [h1, h2, h3, h4, h7, h6, h8]

theorem spec_Reads_ev (op r a b n : Int) : Ev (fun k => spec_Reads.f k op r a b n) (readsOf op r a b n) := by
  refine ⟨1, fun k hk => ?_⟩
  obtain ⟨m, rfl⟩ : ∃ m, k = m + 1 := ⟨k - 1, by omega⟩
  simp only [spec_Reads.f, spec_Reads.j0, readsOf]
  by_cases h2 : op = 2
  · subst h2; simp
  by_cases h3 : op = 3
  · subst h3; simp
  by_cases h4 : op = 4
  · subst h4; simp
  by_cases h5 : op = 5
  · subst h5; simp
  by_cases h7 : op = 7
  · subst h7; simp
  by_cases h10 : op = 10
  · subst h10; simp
  by_cases h12 : op = 12
  · subst h12; simp
  simp [h2, h3, h4, h5, h7, h10, h12]

theorem spec_Sets_ev (op r a b n : Int) : Ev (fun k => spec_Sets.f k op r a b n) (setsOf op r a b n) := by
  refine ⟨1, fun k hk => ?_⟩
  obtain ⟨m, rfl⟩ : ∃ m, k = m + 1 := ⟨k - 1, by omega⟩
  simp only [spec_Sets.f, spec_Sets.j0, setsOf]
  by_cases h1 : op = 1
  · subst h1; simp
  by_cases h2 : op = 2
  · subst h2; simp
  by_cases h3 : op = 3
  · subst h3; simp
  by_cases h4 : op = 4
  · subst h4; simp
  by_cases h7 : op = 7
  · subst h7; simp
  by_cases h6 : op = 6
  · subst h6; simp
  by_cases h8 : op = 8
  · subst h8; simp
  simp [h1, h2, h3, h4, h7, h6, h8]

theorem readsOf_mem {op r a b n x : Int} (h : x ∈ readsOf op r a b n) : x = a ∨ x = b := by
  unfold readsOf at h
  split at h
  · simpa using h
  · split at h
    · left; simpa using h
    · simp at h
theorem setsOf_mem {op r a b n x : Int} (h : x ∈ setsOf op r a b n) : x = r ∨ x = b := by
  unfold setsOf at h
  split at h
  · left; simpa using h
  · split at h
    · simpa using h
    · simp at h
theorem FnSets (x0 : (List Int)) (ok0 : (x0.length ≤ maxLen ∧ ∀ z ∈ x0, ((Lit.int .u8 z).wf = true))) : ∃ k, laws_FnSets.f k x0 = some true := by
  have hl := ok0.1
  unfold maxLen at hl
  refine Ev.rounds (g := fun k => laws_FnSets.f k x0) ?_
  simp only [laws_FnSets.f, laws_big.f, Option.bind_some, decide_eq_true_eq]
  by_cases hb : (x0.length : Int) > 1048576
  · exact Ev.ite_pos hb (Ev.now _)
  refine Ev.ite_neg hb ?_
  obtain ⟨op, r, a, b, n, e⟩ := l1DrawOne_ev x0 (by omega)
  have er : Ev (fun k => spec_DrawReads.f k x0) (op, r, a, b, n) := by
    simp only [spec_DrawReads.f]; exact Ev.bind e (Ev.now _)
  have es : Ev (fun k => spec_DrawSets.f k x0) (op, r, a, b, n) := by
    simp only [spec_DrawSets.f]; exact Ev.bind e (Ev.now _)
  have l1 := readsOf_length op r a b n
  have l2 := setsOf_length op r a b n
  refine Ev.bind er ?_
  try dsimp only
  refine Ev.bind (impl_Reads_ev ..) ?_
  refine Ev.bind (impl_Sets_ev ..) ?_
  refine Ev.bind (spec_Reads_ev ..) ?_
  refine Ev.bind (sameInts_self _ (by omega)) ?_
  refine Ev.ite_pos rfl ?_
  refine Ev.bind (spec_Sets_ev ..) ?_
  refine Ev.bind (sameInts_self _ (by omega)) ?_
  refine Ev.step (fun k => by rw [laws_FnSets.j0]) ?_
  refine Ev.ite_neg (by simp) ?_
  refine count_up (L := fun j k => laws_FnSets.l0 k x0 (readsOf op r a b n) (setsOf op r a b n) (j : Int) op r a b n) (R := fun _ => true) (n := (readsOf op r a b n).length) ?_ ?_ 0 (Nat.zero_le _)
  · refine Ev.step (fun k => by rw [laws_FnSets.l0, if_neg (by omega)]) ?_
    refine Ev.bind es ?_
    try dsimp only
    refine Ev.bind (impl_Sets_ev ..) ?_
    refine count_up (L := fun j k => laws_FnSets.l1 k (readsOf op r a b n) (setsOf op r a b n) (setsOf op r a b n) (j : Int) op r a b n) (R := fun _ => true) (n := (setsOf op r a b n).length) ?_ ?_ 0 (Nat.zero_le _)
    · refine Ev.one fun k => ?_
      rw [laws_FnSets.l1, if_neg (by omega), if_pos (by omega), decide_eq_true (by omega)]
    · intro j hj ih
      refine Ev.step (fun k => ?_) ih
      have hm := setsOf_mem (List.getElem_mem hj)
      rw [laws_FnSets.l1, if_pos (by omega), if_pos (by omega), rd_get hj, wrapS hj (by omega)]
      rcases hm with hm | hm
      · rw [if_pos hm]
      · by_cases h : (setsOf op r a b n)[j] = r
        · rw [if_pos h]
        · rw [if_neg h, if_pos hm]
  · intro j hj ih
    refine Ev.step (fun k => ?_) ih
    have hm := readsOf_mem (List.getElem_mem hj)
    rw [laws_FnSets.l0, if_pos (by omega), if_pos (by omega), rd_get hj, wrapS hj (by omega)]
    rcases hm with hm | hm
    · rw [if_pos hm]
    · by_cases h : (readsOf op r a b n)[j] = a
      · rw [if_pos h]
      · rw [if_neg h, if_pos hm]

end Go.Proofs.Ytpefeaiglkkkoaa.Pure
