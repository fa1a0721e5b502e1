/- Drawn views together know all that each knows, and are the least that does: the printed law's function is true for all codes. -/
import Derived.Test.YtpefeaiglkkkoaaPFnViewsx3
import Derived.Test.YtpefeaiglkkkoaaLp
namespace Go.Proofs.Ytpefeaiglkkkoaa.Pure
open Go.RowKit Go.Proofs.Ytpefeaiglkkkoaa.PFnViews Go.Proofs.YtpefeaiglkkkoaaW.PrintWords Go.Proofs.YtpefeaiglkkkoaaW.PrintLast Go.Proofs.Ytpefeaiglkkkoaa.Lp
set_option linter.unusedVariables false
set_option linter.unusedSimpArgs false

theorem sameInts_ev (a b : List Int) (h : a.length ≤ 9223372036854775807) : Ev (fun k => laws_sameInts.f k a b) (decide (a = b)) := by
  by_cases hl : a.length = b.length
  · have key := count_up (L := fun j k => laws_sameInts.l0 k a b (j : Int)) (R := fun j => agree a b j) (n := a.length)
      (Ev.one fun k => by simp [laws_sameInts.l0, agree_end hl])
      (fun j hj ih => by
        by_cases e : a[j] = b[j]
        · exact Ev.step (fun k => by
            simp only [laws_sameInts.l0]
            rw [if_pos (by omega), if_pos (by omega), if_pos (by omega), if_pos (by rw [rd_get hj, rd_get (by omega), e]), wrapS hj (by omega)]) (by rw [agree_step hj (by omega) e]; exact ih)
        · exact Ev.one fun k => by
            simp only [laws_sameInts.l0]
            rw [if_pos (by omega), if_pos (by omega), if_pos (by omega), if_neg (by rw [rd_get hj, rd_get (by omega)]; exact e), agree_no hj (by omega) e])
    refine Ev.congr (fun k => ?_) (key 0 (Nat.zero_le _))
    unfold laws_sameInts.f
    rw [if_pos (by omega)]
    rfl
  · refine Ev.all fun k => ?_
    unfold laws_sameInts.f
    rw [if_neg (by omega), decide_eq_false (fun e => hl (by rw [e]))]
theorem sameInts_self (a : List Int) (h : a.length ≤ 9223372036854775807) : Ev (fun k => laws_sameInts.f k a a) true := by
  have := sameInts_ev a a h
  simpa using this

theorem and255 (n : Int) : Go.bits .and .i64 n 255 = n % 256 := by
  have h : (BitVec.ofInt 64 255).toNat = 2 ^ 8 - 1 := by decide
  have key : (BitVec.ofInt 64 n &&& BitVec.ofInt 64 255).toNat = (n % ((2 ^ 64 : Nat) : Int)).toNat % 2 ^ 8 := by
    rw [BitVec.toNat_and, BitVec.toNat_ofInt, h, Nat.and_two_pow_sub_one_eq_mod]
  show IntKind.i64.wrap ((BitVec.ofInt 64 n &&& BitVec.ofInt 64 255).toNat : Nat) = n % 256
  rw [key, IntKind.wrap_i64]
  omega
/-- Where a cursor may stand. -/
def Cur (b : List Int) (i : Int) : Prop := 0 ≤ i ∧ i ≤ (b.length : Int) ∧ (b.length : Int) ≤ 1048576
theorem l1Byte_eq (b : List Int) (i h : Int) (c : Cur b i) : ∃ x i' h', spec_l1Byte.f b i h = some (x, i', h') ∧ (0 ≤ x ∧ x ≤ 255) ∧ Cur b i' := by
  obtain ⟨c0, c1, c2⟩ := c
  unfold spec_l1Byte.f
  by_cases e : i < (b.length : Int)
  · rw [if_pos e, if_pos c0, and255, wrap_in (n := i + 1) (by omega) (by omega)]
    exact ⟨_, _, _, rfl, by omega, by omega, by omega, c2⟩
  · rw [if_neg e, and255]
    exact ⟨_, _, _, rfl, by omega, c0, c1, c2⟩
theorem l1Below_eq (b : List Int) (i h n : Int) (c : Cur b i) : ∃ x i' h', spec_l1Below.f b i h n = some (x, i', h') ∧ (0 ≤ x ∧ (0 < n → x < n) ∧ (n ≤ 0 → x = 0)) ∧ Cur b i' := by
  unfold spec_l1Below.f
  by_cases h0 : n ≤ 0
  · rw [if_pos h0]
    exact ⟨_, _, _, rfl, ⟨by omega, by omega, fun _ => rfl⟩, c⟩
  · rw [if_neg h0]
    obtain ⟨x1, i1, h1, e1, b1, c1⟩ := l1Byte_eq b i h c
    by_cases h2 : n ≤ 256
    · rw [if_pos h2, e1]
      simp only [Option.bind_some]
      rw [if_neg (by omega)]
      exact ⟨_, _, _, rfl, ⟨Int.tmod_nonneg _ (by omega), fun _ => Int.tmod_lt_of_pos _ (by omega), fun h => absurd h h0⟩, c1⟩
    · obtain ⟨x2, i2, h2', e2, b2, c2⟩ := l1Byte_eq b i1 h1 c1
      obtain ⟨x3, i3, h3', e3, b3, c3⟩ := l1Byte_eq b i2 h2' c2
      obtain ⟨x4, i4, h4', e4, b4, c4⟩ := l1Byte_eq b i3 h3' c3
      rw [if_neg h2, e1]
      simp only [Option.bind_some, e2, e3, e4]
      rw [if_neg (by omega), wrap_in (n := x1 * 16777216) (by omega) (by omega), wrap_in (n := x2 * 65536) (by omega) (by omega), wrap_in (n := x3 * 256) (by omega) (by omega), wrap_in (n := x1 * 16777216 + x2 * 65536) (by omega) (by omega), wrap_in (n := x1 * 16777216 + x2 * 65536 + x3 * 256) (by omega) (by omega), wrap_in (by omega) (by omega)]
      exact ⟨_, _, _, rfl, ⟨Int.tmod_nonneg _ (by omega), fun _ => Int.tmod_lt_of_pos _ (by omega), fun h => absurd h h0⟩, c4⟩
theorem l1New_ev (b : List Int) (hb : b.length ≤ 1048576) : ∃ h, Ev (fun k => spec_l1New.f k b) (b, 0, h) ∧ Cur b 0 := by
  have key : ∀ d j h, j + d = min b.length 4000 → ∃ h', Ev (fun k => spec_l1New.l0 k b h (j : Int)) (b, 0, h') := by
    intro d
    induction d with
    | zero =>
      intro j h hj
      refine ⟨h, Ev.one fun k => ?_⟩
      simp only [spec_l1New.l0]
      by_cases c : (j : Int) < (b.length : Int)
      · rw [if_pos c, if_neg (by omega)]
      · rw [if_neg c]
    | succ d ih =>
      intro j h hj
      obtain ⟨h', e⟩ := ih (j + 1) _ (by omega)
      exact ⟨h', Ev.step (fun k => by
        simp only [spec_l1New.l0]
        rw [if_pos (by omega), if_pos (by omega), if_pos (by omega), wrapS (n := b.length) (by omega) (by omega)]) e⟩
  obtain ⟨h', e⟩ := key _ 0 _ (Nat.zero_add _)
  exact ⟨h', e, by omega, by omega, by omega⟩

theorem l1Once_eq (b : List Int) (i h n : Int) (c : Cur b i) : ∃ (x : Bool) (i' h' : Int), spec_l1Once.f b i h n = some (x, i', h') ∧ Cur b i' := by
  obtain ⟨x, i', h', e, _, c'⟩ := l1Below_eq b i h n c
  exact ⟨_, _, _, by unfold spec_l1Once.f; rw [e]; rfl, c'⟩

theorem drawViews_ev (code : List Int) (hc : code.length ≤ 1048576) : ∃ a b, Ev (fun k => spec_DrawJoin.f k code) (a, b) ∧ a.length ≤ 1048576 ∧ b.length ≤ 1048576 := by
  obtain ⟨h, e0, c0⟩ := l1New_ev code hc
  obtain ⟨n, i1, h1, e1, ⟨n0, n1, _⟩, c1⟩ := l1Below_eq code 0 h 6 c0
  have n1' := n1 (by omega)
  obtain ⟨N, rfl⟩ := Int.eq_ofNat_of_zero_le n0
  have key : ∀ d j (a b : List Int) i h, j + d = N → a.length = j → b.length = j → Cur code i → ∃ a' b', Ev (fun k => spec_l6DrawViews.l0 k a b (N : Int) (j : Int) code i h) (a', b') ∧ a'.length ≤ 1048576 ∧ b'.length ≤ 1048576 := by
    intro d
    induction d with
    | zero =>
      intro j a b i h hj ha hb c
      obtain ⟨x1, i1, h1, e1, c1⟩ := l1Once_eq code i h 4 c
      obtain ⟨x2, i2, h2, e2, c2⟩ := l1Once_eq code i1 h1 9 c1
      refine ⟨if x2 = true then a ++ [1] else a, if x1 = true then a else b, Ev.one fun k => ?_, by split <;> (try simp) <;> omega, by split <;> omega⟩
      simp only [spec_l6DrawViews.l0]
      rw [if_neg (by omega), e1]
      simp only [Option.bind_some, e2]
      have hl : a.length < 17592186044416 := by omega
      cases x1 <;> cases x2 <;> simp [hl]
    | succ d ih =>
      intro j a b i h hj ha hb c
      obtain ⟨x1, i1, h1, e1, _, c1⟩ := l1Below_eq code i h 4 c
      obtain ⟨x2, i2, h2, e2, _, c2⟩ := l1Below_eq code i1 h1 4 c1
      obtain ⟨a', b', e, la, lb⟩ := ih (j + 1) (a ++ [x1]) (b ++ [x2]) i2 h2 (by omega) (by simp [ha]) (by simp [hb]) c2
      refine ⟨a', b', Ev.step (fun k => ?_) e, la, lb⟩
      simp only [spec_l6DrawViews.l0]
      rw [if_pos (by omega), e1]
      simp only [Option.bind_some]
      rw [if_pos (by omega), e2]
      simp only [Option.bind_some]
      rw [if_pos (by omega), wrapS (n := N) (by omega) (by omega)]
  obtain ⟨a', b', e, la, lb⟩ := key N 0 [] [] i1 h1 (by omega) rfl rfl c1
  refine ⟨a', b', ?_, la, lb⟩
  simp only [spec_DrawJoin.f, spec_l6DrawViews.f]
  refine Ev.bind (a := (a', b')) ?_ (Ev.now _)
  refine Ev.bind e0 ?_
  simp only [e1, Option.bind_some]
  exact e

/-- For each cell the greater one; as many as the shorter one has. -/
def jn (a b : List Int) : List Int := List.zipWith mx a b
theorem jn_length (a b : List Int) : (jn a b).length = min a.length b.length := by simp [jn]
theorem jn_step {a b : List Int} {j : Nat} (ha : j < a.length) (hb : j < b.length) : (jn a b).take (j + 1) = (jn a b).take j ++ [mx a[j] b[j]] := by
  rw [List.take_succ_eq_append_getElem (by rw [jn_length]; omega)]
  simp [jn]
theorem jn_take (a b : List Int) : (jn a b).take (min a.length b.length) = jn a b := List.take_of_length_le (by rw [jn_length]; omega)

theorem spec_l1Max_eq (a b : Int) : spec_l1Max.f a b = some (mx a b) := by
  unfold spec_l1Max.f mx
  by_cases h : a > b
  · rw [if_pos h, if_neg (by omega)]
  · by_cases e : a < b
    · rw [if_neg h, if_pos e]
    · rw [if_neg h, if_neg e, show a = b by omega]
theorem spec_Join_ev (a b : List Int) (h : a.length ≤ 17592186044415) : Ev (fun k => spec_Join.f k a b) (jn a b) := by
  have key := count_up (L := fun j k => spec_Join.l0 k a b ((jn a b).take j) (j : Int)) (R := fun _ => jn a b) (n := min a.length b.length)
    (Ev.one fun k => by
      simp only [spec_Join.l0]
      by_cases hc : ((min a.length b.length : Nat) : Int) < (a.length : Int)
      · rw [if_pos hc, if_neg (by omega), jn_take]
      · rw [if_neg hc, jn_take])
    (fun j hj ih => Ev.step (fun k => by
      simp only [spec_Join.l0]
      rw [if_pos (by omega), if_pos (by omega), if_pos (by omega), spec_l1Max_eq, Option.bind_some, if_pos (by simp [jn_length]; omega), rd_get (by omega), rd_get (by omega), ← jn_step (by omega) (by omega), wrapS (n := a.length) (by omega) (by omega)]) ih)
  exact key 0 (Nat.zero_le _)

theorem impl_Join_ev (a b : List Int) (h : a.length ≤ 17592186044415) : Ev (fun k => impl_Join.f k a b) (jn a b) := by
  have key := count_up (L := fun j k => impl_Join.l0 k a b ((jn a b).take j) (j : Int)) (R := fun _ => jn a b) (n := min a.length b.length)
    (Ev.one fun k => by
      simp only [impl_Join.l0]
      by_cases hc : ((min a.length b.length : Nat) : Int) < (a.length : Int)
      · rw [if_pos hc, if_neg (by omega), jn_take]
      · rw [if_neg hc, jn_take])
    (fun j hj ih => Ev.step (fun k => by
      simp only [impl_Join.l0]
      rw [if_pos (by omega), if_pos (by omega), if_pos (by omega), if_pos (by simp [jn_length]; omega), rd_get (by omega), rd_get (by omega), ← jn_step (by omega) (by omega), wrapS (n := a.length) (by omega) (by omega)]) ih)
  exact key 0 (Nat.zero_le _)

/-- Both are as long, and the first is nowhere less. -/
def geq : List Int → List Int → Bool
  | [], [] => true
  | x :: xs, y :: ys => decide (y ≤ x) && geq xs ys
  | _, _ => false
theorem geq_step {a b : List Int} {j : Nat} (ha : j < a.length) (hb : j < b.length) : geq (a.drop j) (b.drop j) = (decide (b[j] ≤ a[j]) && geq (a.drop (j + 1)) (b.drop (j + 1))) := by
  rw [List.drop_eq_getElem_cons ha, List.drop_eq_getElem_cons hb, geq]
theorem geq_len : ∀ {a b : List Int}, a.length ≠ b.length → geq a b = false
  | [], [], h => by simp at h
  | [], _ :: _, _ => rfl
  | _ :: _, [], _ => rfl
  | x :: xs, y :: ys, h => by
    have := geq_len (a := xs) (b := ys) (by simpa using h)
    simp [geq, this]
theorem geq_end {a b : List Int} {n : Nat} (h : n = min a.length b.length) : geq (a.drop n) (b.drop n) = ((a.length : Int) == (b.length : Int)) := by
  by_cases e : a.length = b.length
  · have h1 : a.drop n = [] := by simp; omega
    have h2 : b.drop n = [] := by simp; omega
    simp [h1, h2, geq, e]
  · rw [geq_len (by simp; omega)]
    symm
    simp
    omega

theorem spec_Knows_ev (a b : List Int) (h : a.length ≤ 9223372036854775807) : Ev (fun k => spec_Knows.f k a b) (geq a b) := by
  have key := count_up (L := fun j k => spec_Knows.l0 k a b (j : Int)) (R := fun j => geq (a.drop j) (b.drop j)) (n := min a.length b.length)
    (by
      refine Ev.step (f := fun k => spec_Knows.j1 k a b ((min a.length b.length : Nat) : Int) false) (fun k => ?_) (Ev.one fun k => ?_)
      · simp only [spec_Knows.l0]
        by_cases hc : ((min a.length b.length : Nat) : Int) < (a.length : Int)
        · rw [if_pos hc, decide_eq_false (by omega)]
        · rw [if_neg hc]
      · simp only [spec_Knows.j1]
        rw [if_neg (by simp), geq_end rfl])
    (fun j hj ih => by
      refine Ev.step (f := fun k => spec_Knows.j1 k a b (j : Int) true) (fun k => ?_) ?_
      · simp only [spec_Knows.l0]
        rw [if_pos (by omega), decide_eq_true (by omega)]
      · by_cases e : a[j]'(by omega) < b[j]'(by omega)
        · refine Ev.one fun k => ?_
          simp only [spec_Knows.j1]
          rw [if_pos trivial, if_pos (by omega), if_pos (by omega), if_pos (by omega), if_pos (by rw [rd_get (by omega), rd_get (by omega)]; exact e), geq_step (by omega) (by omega), decide_eq_false (by omega)]
          rfl
        · refine Ev.step (fun k => ?_) (by rw [geq_step (by omega) (by omega), decide_eq_true (by omega), Bool.true_and]; exact ih)
          simp only [spec_Knows.j1]
          rw [if_pos trivial, if_pos (by omega), if_pos (by omega), if_pos (by omega), if_neg (by rw [rd_get (by omega), rd_get (by omega)]; exact e), wrapS (n := a.length) (by omega) h])
  exact key 0 (Nat.zero_le _)

theorem impl_Knows_ev (a b : List Int) (h : a.length ≤ 9223372036854775807) : Ev (fun k => impl_Knows.f k a b) (geq a b) := by
  by_cases hl : a.length = b.length
  · have key := count_up (L := fun j k => impl_Knows.l0 k a b (b.length : Int) (j : Int)) (R := fun j => geq (a.drop j) (b.drop j)) (n := b.length)
      (Ev.one fun k => by
        simp only [impl_Knows.l0]
        rw [if_neg (by omega), geq_end (by omega)]
        simp [hl])
      (fun j hj ih => by
        by_cases e : a[j]'(by omega) < b[j]'(by omega)
        · refine Ev.one fun k => ?_
          simp only [impl_Knows.l0]
          rw [if_pos (by omega), if_pos (by omega), if_pos (by omega), if_pos (by omega), if_pos (by rw [rd_get (by omega), rd_get (by omega)]; exact e), geq_step (by omega) (by omega), decide_eq_false (by omega)]
          rfl
        · refine Ev.step (fun k => ?_) (by rw [geq_step (by omega) (by omega), decide_eq_true (by omega), Bool.true_and]; exact ih)
          simp only [impl_Knows.l0]
          rw [if_pos (by omega), if_pos (by omega), if_pos (by omega), if_pos (by omega), if_neg (by rw [rd_get (by omega), rd_get (by omega)]; exact e), wrapS hj (by omega)])
    refine Ev.congr (fun k => ?_) (key 0 (Nat.zero_le _))
    unfold impl_Knows.f
    rw [if_pos (by omega)]
    rfl
  · refine Ev.all fun k => ?_
    unfold impl_Knows.f
    rw [if_neg (by omega), geq_len hl]

theorem jn_comm (a b : List Int) : jn b a = jn a b := by
  unfold jn
  rw [List.zipWith_comm]
  congr 1
  funext x y
  unfold mx
  omega
theorem geq_self : ∀ a : List Int, geq a a = true
  | [] => rfl
  | x :: a => by simp [geq, geq_self a]
theorem geq_jn_left : ∀ a b : List Int, a.length = b.length → geq (jn a b) a = true
  | [], [], _ => rfl
  | x :: a, y :: b, h => by
    have := geq_jn_left a b (by simpa using h)
    simp only [jn, List.zipWith_cons_cons, geq, Bool.and_eq_true, decide_eq_true_eq] at this ⊢
    exact ⟨by unfold mx; omega, this⟩
theorem geq_jn_right (a b : List Int) (h : a.length = b.length) : geq (jn a b) b = true := by
  rw [← jn_comm]; exact geq_jn_left b a h.symm
theorem jn_of_geq : ∀ a b : List Int, geq a b = true → jn a b = a
  | [], [], _ => rfl
  | x :: a, y :: b, h => by
    simp only [geq, Bool.and_eq_true, decide_eq_true_eq] at h
    have := jn_of_geq a b h.2
    simp only [jn, List.zipWith_cons_cons] at this ⊢
    rw [this]
    congr 1
    unfold mx
    have := h.1
    omega
  | [], _ :: _, h => by simp [geq] at h
  | _ :: _, [], h => by simp [geq] at h
theorem geq_anti : ∀ a b : List Int, geq a b = true → geq b a = true → a = b
  | [], [], _, _ => rfl
  | x :: a, y :: b, h, k => by
    simp only [geq, Bool.and_eq_true, decide_eq_true_eq] at h k
    rw [geq_anti a b h.2 k.2]
    congr 1
    have := h.1; have := k.1
    omega
  | [], _ :: _, h, _ => by simp [geq] at h
  | _ :: _, [], h, _ => by simp [geq] at h
theorem FnViews (x0 : (List Int)) (ok0 : (x0.length ≤ maxLen ∧ ∀ z ∈ x0, ((Lit.int .u8 z).wf = true))) : ∃ k, laws_FnViews.f k x0 = some true := by
  have hl := ok0.1
  unfold maxLen at hl
  refine Ev.rounds (g := fun k => laws_FnViews.f k x0) ?_
  simp only [laws_FnViews.f, laws_big.f, Option.bind_some, decide_eq_true_eq]
  by_cases hb : (x0.length : Int) > 1048576
  · exact Ev.ite_pos hb (Ev.now _)
  refine Ev.ite_neg hb ?_
  obtain ⟨a, b, e, la, lb⟩ := drawViews_ev x0 (by omega)
  have lj : (jn a b).length ≤ 1048576 := by rw [jn_length]; omega
  refine Ev.bind e ?_
  refine Ev.bind (impl_Join_ev a b (by omega)) ?_
  refine Ev.bind (spec_Join_ev a b (by omega)) ?_
  refine Ev.bind (sameInts_self _ (by omega)) ?_
  refine Ev.ite_pos rfl ?_
  refine Ev.bind (impl_Knows_ev a b (by omega)) ?_
  refine Ev.bind (spec_Knows_ev a b (by omega)) ?_
  refine Ev.ite_neg (by simp) ?_
  refine Ev.bind (impl_Join_ev b a (by omega)) ?_
  rw [jn_comm a b]
  refine Ev.bind (sameInts_self _ (by omega)) ?_
  refine Ev.step (fun k => by rw [laws_FnViews.j0]) ?_
  simp only [Bool.not_true]
  refine Ev.ite_neg (by simp) ?_
  by_cases hl : a.length = b.length
  · refine Ev.ite_pos (by omega) ?_
    refine Ev.bind (impl_Knows_ev _ a (by omega)) ?_
    rw [geq_jn_left a b hl]
    refine Ev.ite_pos rfl ?_
    refine Ev.bind (impl_Knows_ev _ b (by omega)) ?_
    rw [geq_jn_right a b hl]
    refine Ev.ite_pos rfl ?_
    refine Ev.bind (impl_Knows_ev a a (by omega)) ?_
    rw [geq_self]
    refine Ev.ite_pos rfl ?_
    refine Ev.bind (impl_Knows_ev a b (by omega)) ?_
    by_cases hg : geq a b = true
    · rw [hg]
      refine Ev.ite_pos rfl ?_
      refine Ev.bind (sameInts_ev _ a (by omega)) ?_
      rw [jn_of_geq a b hg, decide_eq_true rfl]
      refine Ev.ite_pos rfl ?_
      refine Ev.bind (impl_Knows_ev a b (by omega)) ?_
      rw [hg]
      refine Ev.ite_pos rfl ?_
      refine Ev.bind (impl_Knows_ev b a (by omega)) ?_
      by_cases hg2 : geq b a = true
      · rw [hg2]
        refine Ev.ite_pos rfl ?_
        refine Ev.bind (sameInts_ev a b (by omega)) ?_
        rw [decide_eq_true (geq_anti a b hg hg2)]
        exact Ev.now _
      · exact Ev.ite_neg hg2 (Ev.now _)
    · refine Ev.ite_neg hg ?_
      refine Ev.bind (impl_Knows_ev a b (by omega)) ?_
      exact Ev.ite_neg hg (Ev.now _)
  · refine Ev.ite_neg (by omega) ?_
    refine Ev.bind (impl_Knows_ev a b (by omega)) ?_
    rw [geq_len hl]
    refine Ev.ite_neg (by simp) ?_
    refine Ev.ite_pos (by rw [jn_length]; omega) ?_
    rw [decide_eq_true (by rw [jn_length]; omega)]
    exact Ev.now _

end Go.Proofs.Ytpefeaiglkkkoaa.Pure
