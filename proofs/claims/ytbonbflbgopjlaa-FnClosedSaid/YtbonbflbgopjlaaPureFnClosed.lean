/- A drawn channel that is closed gives what it has, and then it is over; closed twice, or sent to, it faults: the printed law's function is true for all codes. -/
import Derived.Test.YtbonbflbgopjlaaPFnClosedx4
import Derived.Test.YtbonbflbgopjlaaLp
namespace Go.Proofs.Ytbonbflbgopjlaa.Pure
open Go.RowKit Go.Proofs.Ytbonbflbgopjlaa.PFnClosed Go.Proofs.YtbonbflbgopjlaaW.PrintWords Go.Proofs.YtbonbflbgopjlaaW.PrintLast Go.Proofs.Ytbonbflbgopjlaa.Lp
set_option linter.unusedVariables false
set_option linter.unusedSimpArgs false

theorem sameInts_ev (a b : List Int) (h : a.length ≤ 9223372036854775807) : Ev (fun k => laws_sameInts.f k a b) (decide (a = b)) := by
  by_cases hl : a.length = b.length
  · have key := count_up (L := fun j k => laws_sameInts.l0 k a b (j : Int)) (R := fun j => agree a b j) (n := a.length)
      (Ev.one fun k => by simp [laws_sameInts.l0, agree_end hl])
      (fun j hj ih => by
        by_cases e : a[j] = b[j]
        · exact Ev.step (fun k => by
            simp only [laws_sameInts.l0]
            rw [if_pos (by omega), if_pos (by omega), if_pos (by omega), if_pos (by rw [rd_get hj, rd_get (by omega), e]), wrapS hj (by omega)]) (by rw [agree_step hj (by omega) e]; exact ih)
        · exact Ev.one fun k => by
            simp only [laws_sameInts.l0]
            rw [if_pos (by omega), if_pos (by omega), if_pos (by omega), if_neg (by rw [rd_get hj, rd_get (by omega)]; exact e), agree_no hj (by omega) e])
    refine Ev.congr (fun k => ?_) (key 0 (Nat.zero_le _))
    unfold laws_sameInts.f
    rw [if_pos (by omega)]
    rfl
  · refine Ev.all fun k => ?_
    unfold laws_sameInts.f
    rw [if_neg (by omega), decide_eq_false (fun e => hl (by rw [e]))]
theorem sameInts_self (a : List Int) (h : a.length ≤ 9223372036854775807) : Ev (fun k => laws_sameInts.f k a a) true := by
  have := sameInts_ev a a h
  simpa using this

theorem and255 (n : Int) : Go.bits .and .i64 n 255 = n % 256 := by
  have h : (BitVec.ofInt 64 255).toNat = 2 ^ 8 - 1 := by decide
  have key : (BitVec.ofInt 64 n &&& BitVec.ofInt 64 255).toNat = (n % ((2 ^ 64 : Nat) : Int)).toNat % 2 ^ 8 := by
    rw [BitVec.toNat_and, BitVec.toNat_ofInt, h, Nat.and_two_pow_sub_one_eq_mod]
  show IntKind.i64.wrap ((BitVec.ofInt 64 n &&& BitVec.ofInt 64 255).toNat : Nat) = n % 256
  rw [key, IntKind.wrap_i64]
  omega
/-- Where a cursor may stand. -/
def Cur (b : List Int) (i : Int) : Prop := 0 ≤ i ∧ i ≤ (b.length : Int) ∧ (b.length : Int) ≤ 1048576
theorem l1Byte_eq (b : List Int) (i h : Int) (c : Cur b i) : ∃ x i' h', spec_l1Byte.f b i h = some (x, i', h') ∧ (0 ≤ x ∧ x ≤ 255) ∧ Cur b i' := by
  obtain ⟨c0, c1, c2⟩ := c
  unfold spec_l1Byte.f
  by_cases e : i < (b.length : Int)
  · rw [if_pos e, if_pos c0, and255, wrap_in (n := i + 1) (by omega) (by omega)]
    exact ⟨_, _, _, rfl, by omega, by omega, by omega, c2⟩
  · rw [if_neg e, and255]
    exact ⟨_, _, _, rfl, by omega, c0, c1, c2⟩
theorem l1Below_eq (b : List Int) (i h n : Int) (c : Cur b i) : ∃ x i' h', spec_l1Below.f b i h n = some (x, i', h') ∧ (0 ≤ x ∧ (0 < n → x < n) ∧ (n ≤ 0 → x = 0)) ∧ Cur b i' := by
  unfold spec_l1Below.f
  by_cases h0 : n ≤ 0
  · rw [if_pos h0]
    exact ⟨_, _, _, rfl, ⟨by omega, by omega, fun _ => rfl⟩, c⟩
  · rw [if_neg h0]
    obtain ⟨x1, i1, h1, e1, b1, c1⟩ := l1Byte_eq b i h c
    by_cases h2 : n ≤ 256
    · rw [if_pos h2, e1]
      simp only [Option.bind_some]
      rw [if_neg (by omega)]
      exact ⟨_, _, _, rfl, ⟨Int.tmod_nonneg _ (by omega), fun _ => Int.tmod_lt_of_pos _ (by omega), fun h => absurd h h0⟩, c1⟩
    · obtain ⟨x2, i2, h2', e2, b2, c2⟩ := l1Byte_eq b i1 h1 c1
      obtain ⟨x3, i3, h3', e3, b3, c3⟩ := l1Byte_eq b i2 h2' c2
      obtain ⟨x4, i4, h4', e4, b4, c4⟩ := l1Byte_eq b i3 h3' c3
      rw [if_neg h2, e1]
      simp only [Option.bind_some, e2, e3, e4]
      rw [if_neg (by omega), wrap_in (n := x1 * 16777216) (by omega) (by omega), wrap_in (n := x2 * 65536) (by omega) (by omega), wrap_in (n := x3 * 256) (by omega) (by omega), wrap_in (n := x1 * 16777216 + x2 * 65536) (by omega) (by omega), wrap_in (n := x1 * 16777216 + x2 * 65536 + x3 * 256) (by omega) (by omega), wrap_in (by omega) (by omega)]
      exact ⟨_, _, _, rfl, ⟨Int.tmod_nonneg _ (by omega), fun _ => Int.tmod_lt_of_pos _ (by omega), fun h => absurd h h0⟩, c4⟩
theorem l1New_ev (b : List Int) (hb : b.length ≤ 1048576) : ∃ h, Ev (fun k => spec_l1New.f k b) (b, 0, h) ∧ Cur b 0 := by
  have key : ∀ d j h, j + d = min b.length 4000 → ∃ h', Ev (fun k => spec_l1New.l0 k b h (j : Int)) (b, 0, h') := by
    intro d
    induction d with
    | zero =>
      intro j h hj
      refine ⟨h, Ev.one fun k => ?_⟩
      simp only [spec_l1New.l0]
      by_cases c : (j : Int) < (b.length : Int)
      · rw [if_pos c, if_neg (by omega)]
      · rw [if_neg c]
    | succ d ih =>
      intro j h hj
      obtain ⟨h', e⟩ := ih (j + 1) _ (by omega)
      exact ⟨h', Ev.step (fun k => by
        simp only [spec_l1New.l0]
        rw [if_pos (by omega), if_pos (by omega), if_pos (by omega), wrapS (n := b.length) (by omega) (by omega)]) e⟩
  obtain ⟨h', e⟩ := key _ 0 _ (Nat.zero_add _)
  exact ⟨h', e, by omega, by omega, by omega⟩

theorem l1Once_eq (b : List Int) (i h n : Int) (c : Cur b i) : ∃ (x : Bool) (i' h' : Int), spec_l1Once.f b i h n = some (x, i', h') ∧ Cur b i' := by
  obtain ⟨x, i', h', e, _, c'⟩ := l1Below_eq b i h n c
  exact ⟨_, _, _, by unfold spec_l1Once.f; rw [e]; rfl, c'⟩

theorem l1PickInt_eq (b : List Int) (i h : Int) (l : List Int) (hl : 0 < l.length) (c : Cur b i) : ∃ x i' h', spec_l1PickInt.f b i h l = some (x, i', h') ∧ x ∈ l ∧ Cur b i' := by
  obtain ⟨x, i', h', e, ⟨h0, h1, _⟩, c'⟩ := l1Below_eq b i h (l.length : Int) c
  have h1' := h1 (by omega)
  refine ⟨_, _, _, by unfold spec_l1PickInt.f; rw [e]; simp only [Option.bind_some]; rw [if_pos h0, if_pos h1'], ?_, c'⟩
  obtain ⟨j, rfl⟩ := Int.eq_ofNat_of_zero_le h0
  rw [rd_get (by omega)]
  exact List.getElem_mem _

theorem l3Draw_ev (b : List Int) (i h : Int) (c : Cur b i) : ∃ cap l cl i' h', Ev (fun k => spec_l3Draw.f k b i h) (cap, l, cl, i', h') ∧ l.length ≤ 9 ∧ Cur b i' := by
  obtain ⟨q, i1, h1, e1, ⟨q0, q1, _⟩, c1⟩ := l1Below_eq b i h 4 c
  have q1' := q1 (by omega)
  obtain ⟨cl, i2, h2, e2, c2⟩ := l1Once_eq b i1 h1 4 c1
  have key : ∀ d (j : Nat) i h l, j + d = 5 → l.length = j → Cur b i → ∃ cap l' cl' i' h', Ev (fun k => spec_l3Draw.l0 k (j : Int) b i h (1 + q) l cl) (cap, l', cl', i', h') ∧ l'.length ≤ 9 ∧ Cur b i' := by
    intro d
    induction d with
    | zero =>
      intro j i h l hj hl c
      obtain ⟨n, i3, h3, e3, ⟨n0, n1, _⟩, c3⟩ := l1Below_eq b i h (1 + q + 1) c
      have n1' := n1 (by omega)
      obtain ⟨o, i4, h4, e4, _, c4⟩ := l1Below_eq b i3 h3 12 c3
      by_cases o0 : o = 0
      · obtain ⟨x, i5, h5, e5, _, c5⟩ := l1PickInt_eq b i4 h4 [0, 5, (-1)] (by simp) c4
        exact ⟨_, _, _, _, _, Ev.one fun k => by
          simp only [spec_l3Draw.l0]
          rw [wrap_in (by omega) (by omega), e3, Option.bind_some, if_neg (by dsimp only; omega), e4, Option.bind_some, if_pos o0, e5, Option.bind_some], by omega, c5⟩
      by_cases o1 : o = 1
      · exact ⟨_, _, _, _, _, Ev.one fun k => by
          simp only [spec_l3Draw.l0]
          rw [wrap_in (by omega) (by omega), e3, Option.bind_some, if_neg (by dsimp only; omega), e4, Option.bind_some, if_neg o0, if_pos o1, Option.bind_some, if_pos (by simp; omega)], by simp; omega, c4⟩
      exact ⟨_, _, _, _, _, Ev.one fun k => by
          simp only [spec_l3Draw.l0]
          rw [wrap_in (by omega) (by omega), e3, Option.bind_some, if_neg (by dsimp only; omega), e4, Option.bind_some, if_neg o0, if_neg o1], by omega, c4⟩
    | succ d ih =>
      intro j i h l hj hl c
      obtain ⟨n, i3, h3, e3, ⟨n0, n1, _⟩, c3⟩ := l1Below_eq b i h (1 + q + 1) c
      by_cases hn : (j : Int) < n
      · obtain ⟨x, i4, h4, e4, _, c4⟩ := l1Below_eq b i3 h3 20 c3
        obtain ⟨cap, l', cl', i', h', e, l1, c'⟩ := ih (j + 1) i4 h4 (l ++ [wrap64 (x - 3)]) (by omega) (by simp [hl]) c4
        exact ⟨cap, l', cl', i', h', Ev.step (fun k => by
          simp only [spec_l3Draw.l0]
          rw [wrap_in (n := 1 + q + 1) (by omega) (by omega), e3, Option.bind_some, if_pos hn, e4, Option.bind_some, if_pos (by omega), wrapS (n := 5) (by omega) (by omega)]) e, l1, c'⟩
      obtain ⟨o, i4, h4, e4, _, c4⟩ := l1Below_eq b i3 h3 12 c3
      by_cases o0 : o = 0
      · obtain ⟨x, i5, h5, e5, _, c5⟩ := l1PickInt_eq b i4 h4 [0, 5, (-1)] (by simp) c4
        exact ⟨_, _, _, _, _, Ev.one fun k => by
          simp only [spec_l3Draw.l0]
          rw [wrap_in (by omega) (by omega), e3, Option.bind_some, if_neg (by dsimp only; omega), e4, Option.bind_some, if_pos o0, e5, Option.bind_some], by omega, c5⟩
      by_cases o1 : o = 1
      · exact ⟨_, _, _, _, _, Ev.one fun k => by
          simp only [spec_l3Draw.l0]
          rw [wrap_in (by omega) (by omega), e3, Option.bind_some, if_neg (by dsimp only; omega), e4, Option.bind_some, if_neg o0, if_pos o1, Option.bind_some, if_pos (by simp; omega)], by simp; omega, c4⟩
      exact ⟨_, _, _, _, _, Ev.one fun k => by
          simp only [spec_l3Draw.l0]
          rw [wrap_in (by omega) (by omega), e3, Option.bind_some, if_neg (by dsimp only; omega), e4, Option.bind_some, if_neg o0, if_neg o1], by omega, c4⟩
  obtain ⟨cap, l, cl', i', h', e, l1, c'⟩ := key 5 0 i2 h2 [] (by omega) rfl c2
  refine ⟨cap, l, cl', i', h', Ev.congr (fun k => ?_) e, l1, c'⟩
  simp only [spec_l3Draw.f, e1, e2, Option.bind_some]
  rw [wrap_in (n := 1 + q) (by omega) (by omega)]
  rfl

/-- lo .. hi. -/
def inn (a lo hi : Int) : Bool := decide (lo ≤ a ∧ a ≤ hi)

theorem spec_l1In_eq (a lo hi : Int) : spec_l1In.f a lo hi = some (inn a lo hi) := by
  unfold spec_l1In.f inn
  by_cases h : a ≥ lo
  · rw [if_pos h]; congr 1; simp; omega
  · rw [if_neg h, decide_eq_false (by omega)]

theorem impl_within_eq (a lo hi : Int) : impl_within.f a lo hi = some (inn a lo hi) := by
  unfold impl_within.f inn
  by_cases h : a ≥ lo
  · rw [if_pos h]; congr 1; simp; omega
  · rw [if_neg h, decide_eq_false (by omega)]

/-- A right channel. -/
def chanOk (c : Int) (l : List Int) : Bool := inn c 1 4 && decide ((l.length : Int) ≤ c)
/-- What ChanSend, ChanTake, ChanClose answer. -/
def sendOf (c : Int) (l : List Int) (cl : Bool) (v : Int) : Int × List Int × Bool × Int := if (cl || !chanOk c l) = true then (c, l, cl, 2) else if (l.length : Int) = c then (c, l, cl, 1) else (c, l ++ [v], cl, 0)
def takeOf (c : Int) (l : List Int) (cl : Bool) : Int × List Int × Bool × Int × Int := if chanOk c l = true then (if (l.length : Int) > 0 then (c, l.drop 1, cl, l.getD 0 0, 0) else if cl = true then (c, l, cl, 0, 3) else (c, l, cl, 0, 1)) else (c, l, cl, 0, 2)
def closeOf (c : Int) (l : List Int) (cl : Bool) : Int × List Int × Bool × Int := if (cl || !chanOk c l) = true then (c, l, cl, 2) else (c, l, true, 0)
theorem sendOf_length (c : Int) (l : List Int) (cl : Bool) (v : Int) : (sendOf c l cl v).2.1.length ≤ l.length + 1 := by
  unfold sendOf
  repeat' split
  all_goals simp
theorem takeOf_length (c : Int) (l : List Int) (cl : Bool) : (takeOf c l cl).2.1.length ≤ l.length := by
  unfold takeOf
  repeat' split
  all_goals simp
theorem closeOf_length (c : Int) (l : List Int) (cl : Bool) : (closeOf c l cl).2.1.length ≤ l.length := by
  unfold closeOf
  repeat' split
  all_goals simp

theorem impl_ChanOk_eq (c : Int) (l : List Int) (cl : Bool) : impl_ChanOk.f c l cl = some (chanOk c l) := by
  unfold impl_ChanOk.f chanOk
  rw [impl_within_eq, Option.bind_some]
  cases inn c 1 4 <;> simp

theorem spec_ChanOk_eq (c : Int) (l : List Int) (cl : Bool) : spec_ChanOk.f c l cl = some (chanOk c l) := by
  unfold spec_ChanOk.f chanOk
  rw [spec_l1In_eq, Option.bind_some]
  cases inn c 1 4 <;> simp

theorem impl_copyInts_eq (l : List Int) (h : l.length < 17592186044416) : impl_copyInts.f l = some l := by
  simp [impl_copyInts.f, h]

theorem impl_copyChan_eq (c : Int) (l : List Int) (cl : Bool) (h : l.length < 17592186044416) : impl_copyChan.f c l cl = some (c, l, cl) := by
  simp [impl_copyChan.f, impl_copyInts_eq l h]

theorem spec_l3Copy_eq (c : Int) (l : List Int) (cl : Bool) (h : l.length < 17592186044416) : spec_l3Copy.f c l cl = some (c, l, cl) := by
  simp [spec_l3Copy.f, h]

theorem impl_ChanSend_ev (c : Int) (l : List Int) (cl : Bool) (v : Int) (h : l.length < 17592186044416) : Ev (fun k => impl_ChanSend.f k c l cl v) (sendOf c l cl v) := by
  refine ⟨1, fun k hk => ?_⟩
  obtain ⟨m, rfl⟩ : ∃ m, k = m + 1 := ⟨k - 1, by omega⟩
  simp only [impl_ChanSend.f, impl_ChanSend.j0, impl_copyChan_eq c l cl h, impl_ChanOk_eq, Option.bind_some, sendOf]
  cases cl <;> cases chanOk c l <;> simp [h] <;> split <;> rfl

theorem impl_ChanTake_eq (c : Int) (l : List Int) (cl : Bool) (h : l.length < 17592186044416) : impl_ChanTake.f c l cl = some (takeOf c l cl) := by
  simp only [impl_ChanTake.f, impl_copyChan_eq c l cl h, impl_ChanOk_eq, Option.bind_some, takeOf]
  by_cases ho : chanOk c l = true
  · rw [if_pos ho, if_pos ho]
    by_cases hl : (l.length : Int) > 0
    · rw [if_pos hl, if_pos hl, if_pos (by omega), if_pos (by omega)]
      simp [rd]
    · rw [if_neg hl, if_neg hl]
      cases cl <;> rfl
  · rw [if_neg ho, if_neg ho]

theorem spec_ChanTake_eq (c : Int) (l : List Int) (cl : Bool) (h : l.length < 17592186044416) : spec_ChanTake.f c l cl = some (takeOf c l cl) := by
  simp only [spec_ChanTake.f, spec_l3Copy_eq c l cl h, spec_ChanOk_eq, Option.bind_some, takeOf]
  by_cases ho : chanOk c l = true
  · rw [if_pos ho, if_pos ho]
    by_cases hl : (l.length : Int) > 0
    · rw [if_pos hl, if_pos hl, if_pos (by omega), if_pos (by simp; omega), if_pos (by omega)]
      simp [rd]
    · rw [if_neg hl, if_neg hl]
      cases cl <;> rfl
  · rw [if_neg ho, if_neg ho]

theorem impl_ChanClose_eq (c : Int) (l : List Int) (cl : Bool) (h : l.length < 17592186044416) : impl_ChanClose.f c l cl = some (closeOf c l cl) := by
  simp only [impl_ChanClose.f, impl_copyChan_eq c l cl h, impl_ChanOk_eq, Option.bind_some, closeOf]
  cases cl <;> cases chanOk c l <;> simp

theorem spec_ChanClose_eq (c : Int) (l : List Int) (cl : Bool) (h : l.length < 17592186044416) : spec_ChanClose.f c l cl = some (closeOf c l cl) := by
  simp only [spec_ChanClose.f, spec_l3Copy_eq c l cl h, spec_ChanOk_eq, Option.bind_some, closeOf]
  cases cl <;> cases chanOk c l <;> simp

theorem drawChan_ev (code : List Int) (hc : code.length ≤ 1048576) : ∃ c l cl, Ev (fun k => spec_DrawChanClose.f k code) (c, l, cl) ∧ Ev (fun k => spec_DrawChanTake.f k code) (c, l, cl) ∧ l.length ≤ 9 := by
  obtain ⟨h, e0, c0⟩ := l1New_ev code hc
  obtain ⟨c, l, cl, i1, h1, e1, hl, c1⟩ := l3Draw_ev code 0 h c0
  refine ⟨c, l, cl, ?_, ?_, hl⟩
  · simp only [spec_DrawChanClose.f]
    exact Ev.bind e0 (Ev.bind e1 (Ev.now _))
  · simp only [spec_DrawChanTake.f]
    exact Ev.bind e0 (Ev.bind e1 (Ev.now _))
theorem takeOf_same {c : Int} {l : List Int} {cl : Bool} (h : ¬ (takeOf c l cl).2.2.2.2 = 0) : (takeOf c l cl).2.1 = l := by
  unfold takeOf at *
  by_cases h1 : chanOk c l = true
  · by_cases h2 : (l.length : Int) > 0
    · rw [if_pos h1, if_pos h2] at h
      exact absurd rfl h
    · rw [if_pos h1, if_neg h2]
      cases cl <;> rfl
  · rw [if_neg h1]
theorem fnClosed_j0 (c : Int) (l : List Int) (cl : Bool) (ll : l.length ≤ 9) : Ev (fun k => laws_FnClosed.j0 k (closeOf c l cl).2.2.2 false c l cl (closeOf c l cl).1 (closeOf c l cl).2.1 (closeOf c l cl).2.2.1) true := by
  refine Ev.step (fun k => by rw [laws_FnClosed.j0]) ?_
  refine Ev.ite_neg (by simp) ?_
  by_cases h1 : (cl || !chanOk c l) = true
  · rw [show closeOf c l cl = (c, l, cl, 2) from if_pos h1]
    refine Ev.ite_neg (show ¬ _ = (0 : Int) by dsimp only; omega) ?_
    refine Ev.bind (sameInts_self l (by omega)) ?_
    refine Ev.ite_pos rfl ?_
    dsimp only
    rw [beq_self_eq_true]
    exact Ev.now _
  rw [show closeOf c l cl = (c, l, true, 0) from if_neg h1]
  refine Ev.ite_pos rfl ?_
  dsimp only
  simp only [Bool.or_eq_true, not_or, Bool.not_eq_true, Bool.not_eq_false'] at h1
  obtain ⟨rfl, ho⟩ := h1
  have ho' : chanOk c l = true := by simpa using ho
  have hok := ho'
  unfold chanOk at ho'
  simp only [Bool.and_eq_true, decide_eq_true_eq] at ho'
  obtain ⟨hi, hlen⟩ := ho'
  have ok : ∀ m : List Int, m.length ≤ l.length → chanOk c m = true := by
    intro m hm
    unfold chanOk
    rw [hi, Bool.true_and, decide_eq_true_eq]
    omega
  simp only [impl_ChanClose_eq c l true (by omega), Option.bind_some]
  refine Ev.bind (impl_ChanSend_ev c l true 1 (by omega)) ?_
  rw [show closeOf c l true = (c, l, true, 2) from if_pos rfl, show sendOf c l true 1 = (c, l, true, 2) from if_pos rfl]
  dsimp only
  refine count_up (L := fun j k => laws_FnClosed.l0 k 2 2 (j : Int) c l false c (l.drop j) true) (R := fun _ => true) (n := l.length) ?_ ?_ 0 (Nat.zero_le _)
  · refine Ev.one fun k => ?_
    have ht2 : takeOf c [] true = (c, [], true, 0, 3) := by
      rw [takeOf, if_pos (ok _ (by simp)), if_neg (by simp), if_pos rfl]
    rw [List.drop_length, laws_FnClosed.l0, if_neg (by omega), impl_ChanTake_eq _ _ _ (by simp), ht2, Option.bind_some, if_pos rfl, if_pos rfl, if_pos rfl]
    rfl
  · intro j hj ih
    refine Ev.step (fun k => ?_) ih
    have ht : ∃ x, takeOf c (l.drop j) true = (c, l.drop (j + 1), true, x, 0) := by
      refine ⟨(l.drop j).getD 0 0, ?_⟩
      rw [takeOf, if_pos (ok _ (by simp)), if_pos (by simp; omega), List.drop_drop]
    obtain ⟨x, ht⟩ := ht
    rw [laws_FnClosed.l0, if_pos (by omega), impl_ChanTake_eq _ _ _ (by simp; omega), ht, Option.bind_some, if_pos rfl, wrapS hj (by omega)]
theorem FnClosed (x0 : (List Int)) (ok0 : (x0.length ≤ maxLen ∧ ∀ z ∈ x0, ((Lit.int .u8 z).wf = true))) : ∃ k, laws_FnClosed.f k x0 = some true := by
  have hl := ok0.1
  unfold maxLen at hl
  refine Ev.rounds (g := fun k => laws_FnClosed.f k x0) ?_
  simp only [laws_FnClosed.f, laws_big.f, Option.bind_some, decide_eq_true_eq]
  by_cases hb : (x0.length : Int) > 1048576
  · exact Ev.ite_pos hb (Ev.now _)
  refine Ev.ite_neg hb ?_
  obtain ⟨c, l, cl, e, e2, ll⟩ := drawChan_ev x0 (by omega)
  refine Ev.bind e ?_
  dsimp only
  simp only [impl_ChanClose_eq c l cl (by omega), spec_ChanClose_eq c l cl (by omega), Option.bind_some]
  refine Ev.bind e2 ?_
  dsimp only
  simp only [impl_ChanTake_eq c l cl (by omega), spec_ChanTake_eq c l cl (by omega), Option.bind_some]
  refine Ev.ite_pos trivial (Ev.ite_pos trivial (Ev.ite_pos trivial ?_))
  by_cases h0 : (takeOf c l cl).2.2.2.2 = 0
  · exact Ev.ite_pos h0 (fnClosed_j0 c l cl ll)
  · refine Ev.ite_neg h0 ?_
    rw [takeOf_same h0]
    refine Ev.bind (sameInts_self l (by omega)) ?_
    exact fnClosed_j0 c l cl ll

end Go.Proofs.Ytbonbflbgopjlaa.Pure
