/- The program's ChanTake answers what the reference's does, leaves its arguments as they were and hands back memory of its own: the printed law's function is true for all channels. -/
import Derived.Test.YtbonbflbgopjlaaPFnExactChanTakex3
import Derived.Test.YtbonbflbgopjlaaLp
namespace Go.Proofs.Ytbonbflbgopjlaa.Pure
open Go.RowKit Go.Proofs.Ytbonbflbgopjlaa.PFnExactChanTake Go.Proofs.YtbonbflbgopjlaaW.PrintWords Go.Proofs.YtbonbflbgopjlaaW.PrintLast Go.Proofs.Ytbonbflbgopjlaa.Lp
set_option linter.unusedVariables false
set_option linter.unusedSimpArgs false

theorem toIntS_ev (l : List Int) (h : l.length ≤ 35184372088832) : Ev (fun k => laws_toIntS.f k l) l := by
  have key := count_up (L := fun j k => laws_toIntS.l0 k l (l.take j ++ List.replicate (l.length - j) 0) (j : Int)) (R := fun _ => l) (n := l.length)
    (Ev.one fun k => by simp [laws_toIntS.l0])
    (fun j hj ih => Ev.step (fun k => by
      simp only [laws_toIntS.l0]
      rw [if_pos (by omega), if_pos (by omega), if_pos (by simp; omega), wrapS hj (by omega), Int.toNat_natCast, fill_set l 0 j hj _ (rd_get hj)]) ih)
  refine Ev.congr (fun k => ?_) (key 0 (Nat.zero_le _))
  unfold laws_toIntS.f
  rw [if_pos (by omega), if_pos (by simpa using h)]
  simp

theorem eqIntS_ev (a b : List Int) (h : a.length ≤ 9223372036854775807) : Ev (fun k => laws_eqIntS.f k a b) (decide (a = b)) := by
  by_cases hl : a.length = b.length
  · have key := count_up (L := fun j k => laws_eqIntS.l0 k a b (j : Int)) (R := fun j => agree a b j) (n := a.length)
      (Ev.one fun k => by simp [laws_eqIntS.l0, agree_end hl])
      (fun j hj ih => by
        by_cases e : a[j] = b[j]
        · exact Ev.step (fun k => by
            simp only [laws_eqIntS.l0]
            rw [if_pos (by omega), if_pos (by omega), if_pos (by omega), if_pos (by rw [rd_get hj, rd_get (by omega), e]), wrapS hj (by omega)]) (by rw [agree_step hj (by omega) e]; exact ih)
        · exact Ev.one fun k => by
            simp only [laws_eqIntS.l0]
            rw [if_pos (by omega), if_pos (by omega), if_pos (by omega), if_neg (by rw [rd_get hj, rd_get (by omega)]; exact e), agree_no hj (by omega) e])
    refine Ev.congr (fun k => ?_) (key 0 (Nat.zero_le _))
    unfold laws_eqIntS.f
    rw [if_pos (by omega)]
    rfl
  · refine Ev.all fun k => ?_
    unfold laws_eqIntS.f
    rw [if_neg (by omega), decide_eq_false (fun e => hl (by rw [e]))]
theorem eqIntS_self (a : List Int) (h : a.length ≤ 9223372036854775807) : Ev (fun k => laws_eqIntS.f k a a) true := by
  have := eqIntS_ev a a h
  simpa using this

theorem markIntS_ev (l : List Int) (a : Int) (h0 : 0 ≤ a) (h : a + l.length ≤ 4611686018427387904) : Ev (fun k => laws_markIntS.f k l a) (a + (l.length : Int), iota a l.length) := by
  have key := count_up (L := fun j k => laws_markIntS.l0 k (iota a j ++ l.drop j) (a + (j : Int)) (j : Int)) (R := fun _ => (a + (l.length : Int), iota a l.length)) (n := l.length)
    (Ev.one fun k => by simp [laws_markIntS.l0, iota_length])
    (fun j hj ih => Ev.step (fun k => by
      simp only [laws_markIntS.l0]
      rw [if_pos (by simp [iota_length]; omega), if_pos (by omega), wrapS hj (by omega), Int.toNat_natCast, mark_set l a j hj, wrap_in (by omega) (by omega), show a + (j : Int) + 1 = a + ((j + 1 : Nat) : Int) by omega]) ih)
  refine Ev.congr (fun k => ?_) (key 0 (Nat.zero_le _))
  unfold laws_markIntS.f
  simp [iota]

theorem heldIntS_ev (n : Nat) (a : Int) (h0 : 0 ≤ a) (h : a + n ≤ 4611686018427387904) : Ev (fun k => laws_heldIntS.f k (iota a n) a) (a + (n : Int)) := by
  have key := count_up (L := fun j k => laws_heldIntS.l0 k (iota a n) (a + (j : Int)) (j : Int)) (R := fun _ => a + (n : Int)) (n := n)
    (Ev.one fun k => by simp [laws_heldIntS.l0, iota_length])
    (fun j hj ih => Ev.step (fun k => by
      simp only [laws_heldIntS.l0]
      rw [if_pos (by rw [iota_length]; omega), if_pos (by omega), if_pos (by rw [rd_get (by rw [iota_length]; exact hj), iota_get]), wrapS hj (by omega), wrap_in (by omega) (by omega), show a + (j : Int) + 1 = a + ((j + 1 : Nat) : Int) by omega]) ih)
  refine Ev.congr (fun k => ?_) (key 0 (Nat.zero_le _))
  unfold laws_heldIntS.f
  simp

theorem szIntS_yes {l : List Int} {a : Int} (ha : a ≤ 9223372036854775807) (h : (l.length : Int) ≤ a) : laws_szIntS.f l a = some (a - (l.length : Int)) := by
  unfold laws_szIntS.f
  rw [wrap_in (by omega) (by omega), if_neg (by omega)]
theorem szIntS_no {l : List Int} {a : Int} (h0 : 0 ≤ a) (hl : l.length ≤ 9223372036854775807) (h : a < (l.length : Int)) : laws_szIntS.f l a = some (-1) := by
  unfold laws_szIntS.f
  rw [wrap_in (by omega) (by omega), if_pos (by omega)]

theorem szChan_yes {c : Int} {l : List Int} {cl : Bool} {a : Int} (ha : a ≤ 9223372036854775807) (h : (l.length : Int) ≤ a) : laws_szChan.f c l cl a = some (a - (l.length : Int)) := by
  unfold laws_szChan.f
  rw [szIntS_yes ha h, Option.bind_some, if_neg (by omega)]
theorem szChan_no {c : Int} {l : List Int} {cl : Bool} {a : Int} (h0 : 0 ≤ a) (hl : l.length ≤ 9223372036854775807) (h : a < (l.length : Int)) : laws_szChan.f c l cl a = some (-1) := by
  unfold laws_szChan.f
  rw [szIntS_no h0 hl h, Option.bind_some, if_pos (by omega)]

theorem toChan_ev (c : Int) (l : List Int) (cl : Bool) (h : l.length ≤ 35184372088832) : Ev (fun k => laws_toChan.f k c l cl) (c, l, cl) := by
  simp only [laws_toChan.f]
  exact Ev.bind (toIntS_ev l h) (Ev.now _)

theorem eqChan_self (c : Int) (l : List Int) (cl : Bool) (h : l.length ≤ 9223372036854775807) : Ev (fun k => laws_eqChan.f k c l cl c l cl) true := by
  simp only [laws_eqChan.f, if_true]
  refine Ev.bind (eqIntS_self l h) ?_
  simp only [if_true, bne_self_eq_false, Bool.false_eq_true, if_false]
  exact Ev.now _

theorem markChan_ev (c : Int) (l : List Int) (cl : Bool) (a : Int) (h0 : 0 ≤ a) (h : a + l.length ≤ 4611686018427387904) : Ev (fun k => laws_markChan.f k c l cl a) (a + (l.length : Int), iota a l.length) := by
  simp only [laws_markChan.f]
  exact Ev.bind (markIntS_ev l a h0 h) (Ev.now _)

theorem heldChan_ev (c : Int) (n : Nat) (cl : Bool) (a : Int) (h0 : 0 ≤ a) (h : a + n ≤ 4611686018427387904) : Ev (fun k => laws_heldChan.f k c (iota a n) cl a) (a + (n : Int)) := by
  simp only [laws_heldChan.f]
  refine Ev.bind (heldIntS_ev n a h0 h) ?_
  simp only [if_neg (show ¬ a + (n : Int) < 0 by omega)]
  exact Ev.now _

/-- lo .. hi. -/
def inn (a lo hi : Int) : Bool := decide (lo ≤ a ∧ a ≤ hi)

theorem spec_l1In_eq (a lo hi : Int) : spec_l1In.f a lo hi = some (inn a lo hi) := by
  unfold spec_l1In.f inn
  by_cases h : a ≥ lo
  · rw [if_pos h]; congr 1; simp; omega
  · rw [if_neg h, decide_eq_false (by omega)]

theorem impl_within_eq (a lo hi : Int) : impl_within.f a lo hi = some (inn a lo hi) := by
  unfold impl_within.f inn
  by_cases h : a ≥ lo
  · rw [if_pos h]; congr 1; simp; omega
  · rw [if_neg h, decide_eq_false (by omega)]

/-- A right channel. -/
def chanOk (c : Int) (l : List Int) : Bool := inn c 1 4 && decide ((l.length : Int) ≤ c)
/-- What ChanSend, ChanTake, ChanClose answer. -/
def sendOf (c : Int) (l : List Int) (cl : Bool) (v : Int) : Int × List Int × Bool × Int := if (cl || !chanOk c l) = true then (c, l, cl, 2) else if (l.length : Int) = c then (c, l, cl, 1) else (c, l ++ [v], cl, 0)
def takeOf (c : Int) (l : List Int) (cl : Bool) : Int × List Int × Bool × Int × Int := if chanOk c l = true then (if (l.length : Int) > 0 then (c, l.drop 1, cl, l.getD 0 0, 0) else if cl = true then (c, l, cl, 0, 3) else (c, l, cl, 0, 1)) else (c, l, cl, 0, 2)
def closeOf (c : Int) (l : List Int) (cl : Bool) : Int × List Int × Bool × Int := if (cl || !chanOk c l) = true then (c, l, cl, 2) else (c, l, true, 0)
theorem sendOf_length (c : Int) (l : List Int) (cl : Bool) (v : Int) : (sendOf c l cl v).2.1.length ≤ l.length + 1 := by
  unfold sendOf
  repeat' split
  all_goals simp
theorem takeOf_length (c : Int) (l : List Int) (cl : Bool) : (takeOf c l cl).2.1.length ≤ l.length := by
  unfold takeOf
  repeat' split
  all_goals simp
theorem closeOf_length (c : Int) (l : List Int) (cl : Bool) : (closeOf c l cl).2.1.length ≤ l.length := by
  unfold closeOf
  repeat' split
  all_goals simp

theorem spec_ChanOk_eq (c : Int) (l : List Int) (cl : Bool) : spec_ChanOk.f c l cl = some (chanOk c l) := by
  unfold spec_ChanOk.f chanOk
  rw [spec_l1In_eq, Option.bind_some]
  cases inn c 1 4 <;> simp

theorem impl_ChanOk_eq (c : Int) (l : List Int) (cl : Bool) : impl_ChanOk.f c l cl = some (chanOk c l) := by
  unfold impl_ChanOk.f chanOk
  rw [impl_within_eq, Option.bind_some]
  cases inn c 1 4 <;> simp

theorem spec_l3Copy_eq (c : Int) (l : List Int) (cl : Bool) (h : l.length < 17592186044416) : spec_l3Copy.f c l cl = some (c, l, cl) := by
  simp [spec_l3Copy.f, h]

theorem impl_copyInts_eq (l : List Int) (h : l.length < 17592186044416) : impl_copyInts.f l = some l := by
  simp [impl_copyInts.f, h]

theorem impl_copyChan_eq (c : Int) (l : List Int) (cl : Bool) (h : l.length < 17592186044416) : impl_copyChan.f c l cl = some (c, l, cl) := by
  simp [impl_copyChan.f, impl_copyInts_eq l h]

theorem spec_ChanTake_eq (c : Int) (l : List Int) (cl : Bool) (h : l.length < 17592186044416) : spec_ChanTake.f c l cl = some (takeOf c l cl) := by
  simp only [spec_ChanTake.f, spec_l3Copy_eq c l cl h, spec_ChanOk_eq, Option.bind_some, takeOf]
  by_cases ho : chanOk c l = true
  · rw [if_pos ho, if_pos ho]
    by_cases hl : (l.length : Int) > 0
    · rw [if_pos hl, if_pos hl, if_pos (by omega), if_pos (by simp; omega), if_pos (by omega)]
      simp [rd]
    · rw [if_neg hl, if_neg hl]
      cases cl <;> rfl
  · rw [if_neg ho, if_neg ho]

theorem impl_ChanTake_eq (c : Int) (l : List Int) (cl : Bool) (h : l.length < 17592186044416) : impl_ChanTake.f c l cl = some (takeOf c l cl) := by
  simp only [impl_ChanTake.f, impl_copyChan_eq c l cl h, impl_ChanOk_eq, Option.bind_some, takeOf]
  by_cases ho : chanOk c l = true
  · rw [if_pos ho, if_pos ho]
    by_cases hl : (l.length : Int) > 0
    · rw [if_pos hl, if_pos hl, if_pos (by omega), if_pos (by omega)]
      simp [rd]
    · rw [if_neg hl, if_neg hl]
      cases cl <;> rfl
  · rw [if_neg ho, if_neg ho]

theorem FnExactChanTake (x0_0 : Int) (x0_1 : (List Int)) (x0_2 : Bool) (ok0 : (((Lit.int .i64 x0_0).wf = true) ∧ ((x0_1.length ≤ maxLen ∧ ∀ z ∈ x0_1, ((Lit.int .i64 z).wf = true)) ∧ True))) : ∃ k, laws_FnExactChanTake.f k x0_0 x0_1 x0_2 = some true := by
  have hl := ok0.2.1.1
  unfold maxLen at hl
  refine Ev.rounds (g := fun k => laws_FnExactChanTake.f k x0_0 x0_1 x0_2) ?_
  simp only [laws_FnExactChanTake.f]
  by_cases h : (x0_1.length : Int) ≤ 1048576
  · rw [szChan_yes (by omega) h]
    simp only [Option.bind_some, if_neg (show ¬ (1048576 - (x0_1.length : Int) < 0) by omega)]
    have hr := takeOf_length x0_0 x0_1 x0_2
    refine Ev.bind (toChan_ev _ _ _ (by omega)) ?_
    try dsimp only
    simp only [spec_ChanTake_eq x0_0 x0_1 x0_2 (by omega), Option.bind_some]
    refine Ev.bind (toChan_ev _ _ _ (by omega)) ?_
    try dsimp only
    simp only [impl_ChanTake_eq x0_0 x0_1 x0_2 (by omega), Option.bind_some]
    refine Ev.bind (eqChan_self _ _ _ (by omega)) ?_
    simp only [if_true, eq_self, bne_self_eq_false]
    refine Ev.step (fun k => by rw [laws_FnExactChanTake.j0]) ?_
    simp only [bne_self_eq_false, Bool.false_eq_true, if_false]
    refine Ev.bind (toChan_ev _ _ _ (by omega)) ?_
    try dsimp only
    refine Ev.bind (eqChan_self _ _ _ (by omega)) ?_
    simp only [if_true, eq_self, bne_self_eq_false]
    refine Ev.bind (markChan_ev _ _ _ _ (by omega) (by omega)) ?_
    simp only [if_neg (show ¬ (1 + (x0_1.length : Int) < 0) by omega)]
    refine Ev.bind (eqChan_self _ _ _ (by omega)) ?_
    simp only [if_true, eq_self, bne_self_eq_false]
    refine Ev.step (fun k => by rw [laws_FnExactChanTake.j1]) ?_
    simp only [bne_self_eq_false, Bool.false_eq_true, if_false]
    refine Ev.bind (markChan_ev _ _ _ _ (by omega) (by omega)) ?_
    refine Ev.bind (heldChan_ev _ _ _ _ (by omega) (by omega)) ?_
    simp only [if_neg (show ¬ (1 + ((takeOf x0_0 x0_1 x0_2).2.1.length : Int) < 0) by omega), if_true]
    refine Ev.bind (toChan_ev _ _ _ (by omega)) ?_
    try dsimp only
    simp only [impl_ChanTake_eq x0_0 x0_1 x0_2 (by omega), Option.bind_some]
    refine Ev.bind (eqChan_self _ _ _ (by omega)) ?_
    simp only [if_true, eq_self, bne_self_eq_false]
    refine Ev.step (fun k => by rw [laws_FnExactChanTake.j2]) ?_
    simp only [bne_self_eq_false, Bool.false_eq_true, if_false]
    refine Ev.bind (heldChan_ev _ _ _ _ (by omega) (by omega)) ?_
    simp only [if_neg (show ¬ (1 + ((takeOf x0_0 x0_1 x0_2).2.1.length : Int) < 0) by omega), if_true]
    exact Ev.now _
  · rw [szChan_no (by omega) (by omega) (by omega)]
    simp only [Option.bind_some, if_pos (show (-1 : Int) < 0 by omega)]
    exact Ev.now _

end Go.Proofs.Ytbonbflbgopjlaa.Pure
