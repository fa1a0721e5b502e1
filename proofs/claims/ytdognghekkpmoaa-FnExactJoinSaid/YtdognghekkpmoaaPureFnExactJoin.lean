/- The program's Join answers what the reference's does, leaves its arguments as they were and hands back memory of its own: the printed law's function is true for all lists of whole numbers (of at most 2^47 bytes each). -/
import Derived.Test.YtdognghekkpmoaaPFnExactJoinx2
import Derived.Test.YtdognghekkpmoaaLp
namespace Go.Proofs.Ytdognghekkpmoaa.Pure
open Go.RowKit Go.Proofs.Ytdognghekkpmoaa.PFnExactJoin Go.Proofs.YtdognghekkpmoaaW.PrintWords Go.Proofs.YtdognghekkpmoaaW.PrintLast Go.Proofs.Ytdognghekkpmoaa.Lp
set_option linter.unusedVariables false
set_option linter.unusedSimpArgs false

theorem toIntS_ev (l : List Int) (h : l.length ≤ 35184372088832) : Ev (fun k => laws_toIntS.f k l) l := by
  have key := count_up (L := fun j k => laws_toIntS.l0 k l (l.take j ++ List.replicate (l.length - j) 0) (j : Int)) (R := fun _ => l) (n := l.length)
    (Ev.one fun k => by simp [laws_toIntS.l0])
    (fun j hj ih => Ev.step (fun k => by
      simp only [laws_toIntS.l0]
      rw [if_pos (by omega), if_pos (by omega), if_pos (by simp; omega), wrapS hj (by omega), Int.toNat_natCast, fill_set l 0 j hj _ (rd_get hj)]) ih)
  refine Ev.congr (fun k => ?_) (key 0 (Nat.zero_le _))
  unfold laws_toIntS.f
  rw [if_pos (by omega), if_pos (by simpa using h)]
  simp

theorem eqIntS_ev (a b : List Int) (h : a.length ≤ 9223372036854775807) : Ev (fun k => laws_eqIntS.f k a b) (decide (a = b)) := by
  by_cases hl : a.length = b.length
  · have key := count_up (L := fun j k => laws_eqIntS.l0 k a b (j : Int)) (R := fun j => agree a b j) (n := a.length)
      (Ev.one fun k => by simp [laws_eqIntS.l0, agree_end hl])
      (fun j hj ih => by
        by_cases e : a[j] = b[j]
        · exact Ev.step (fun k => by
            simp only [laws_eqIntS.l0]
            rw [if_pos (by omega), if_pos (by omega), if_pos (by omega), if_pos (by rw [rd_get hj, rd_get (by omega), e]), wrapS hj (by omega)]) (by rw [agree_step hj (by omega) e]; exact ih)
        · exact Ev.one fun k => by
            simp only [laws_eqIntS.l0]
            rw [if_pos (by omega), if_pos (by omega), if_pos (by omega), if_neg (by rw [rd_get hj, rd_get (by omega)]; exact e), agree_no hj (by omega) e])
    refine Ev.congr (fun k => ?_) (key 0 (Nat.zero_le _))
    unfold laws_eqIntS.f
    rw [if_pos (by omega)]
    rfl
  · refine Ev.all fun k => ?_
    unfold laws_eqIntS.f
    rw [if_neg (by omega), decide_eq_false (fun e => hl (by rw [e]))]
theorem eqIntS_self (a : List Int) (h : a.length ≤ 9223372036854775807) : Ev (fun k => laws_eqIntS.f k a a) true := by
  have := eqIntS_ev a a h
  simpa using this

theorem markIntS_ev (l : List Int) (a : Int) (h0 : 0 ≤ a) (h : a + l.length ≤ 4611686018427387904) : Ev (fun k => laws_markIntS.f k l a) (a + (l.length : Int), iota a l.length) := by
  have key := count_up (L := fun j k => laws_markIntS.l0 k (iota a j ++ l.drop j) (a + (j : Int)) (j : Int)) (R := fun _ => (a + (l.length : Int), iota a l.length)) (n := l.length)
    (Ev.one fun k => by simp [laws_markIntS.l0, iota_length])
    (fun j hj ih => Ev.step (fun k => by
      simp only [laws_markIntS.l0]
      rw [if_pos (by simp [iota_length]; omega), if_pos (by omega), wrapS hj (by omega), Int.toNat_natCast, mark_set l a j hj, wrap_in (by omega) (by omega), show a + (j : Int) + 1 = a + ((j + 1 : Nat) : Int) by omega]) ih)
  refine Ev.congr (fun k => ?_) (key 0 (Nat.zero_le _))
  unfold laws_markIntS.f
  simp [iota]

theorem heldIntS_ev (n : Nat) (a : Int) (h0 : 0 ≤ a) (h : a + n ≤ 4611686018427387904) : Ev (fun k => laws_heldIntS.f k (iota a n) a) (a + (n : Int)) := by
  have key := count_up (L := fun j k => laws_heldIntS.l0 k (iota a n) (a + (j : Int)) (j : Int)) (R := fun _ => a + (n : Int)) (n := n)
    (Ev.one fun k => by simp [laws_heldIntS.l0, iota_length])
    (fun j hj ih => Ev.step (fun k => by
      simp only [laws_heldIntS.l0]
      rw [if_pos (by rw [iota_length]; omega), if_pos (by omega), if_pos (by rw [rd_get (by rw [iota_length]; exact hj), iota_get]), wrapS hj (by omega), wrap_in (by omega) (by omega), show a + (j : Int) + 1 = a + ((j + 1 : Nat) : Int) by omega]) ih)
  refine Ev.congr (fun k => ?_) (key 0 (Nat.zero_le _))
  unfold laws_heldIntS.f
  simp

/-- For each cell the greater one; as many as the shorter one has. -/
def jn (a b : List Int) : List Int := List.zipWith mx a b
theorem jn_length (a b : List Int) : (jn a b).length = min a.length b.length := by simp [jn]
theorem jn_step {a b : List Int} {j : Nat} (ha : j < a.length) (hb : j < b.length) : (jn a b).take (j + 1) = (jn a b).take j ++ [mx a[j] b[j]] := by
  rw [List.take_succ_eq_append_getElem (by rw [jn_length]; omega)]
  simp [jn]
theorem jn_take (a b : List Int) : (jn a b).take (min a.length b.length) = jn a b := List.take_of_length_le (by rw [jn_length]; omega)

theorem spec_l1Max_eq (a b : Int) : spec_l1Max.f a b = some (mx a b) := by
  unfold spec_l1Max.f mx
  by_cases h : a > b
  · rw [if_pos h, if_neg (by omega)]
  · by_cases e : a < b
    · rw [if_neg h, if_pos e]
    · rw [if_neg h, if_neg e, show a = b by omega]
theorem spec_Join_ev (a b : List Int) (h : a.length ≤ 17592186044415) : Ev (fun k => spec_Join.f k a b) (jn a b) := by
  have key := count_up (L := fun j k => spec_Join.l0 k a b ((jn a b).take j) (j : Int)) (R := fun _ => jn a b) (n := min a.length b.length)
    (Ev.one fun k => by
      simp only [spec_Join.l0]
      by_cases hc : ((min a.length b.length : Nat) : Int) < (a.length : Int)
      · rw [if_pos hc, if_neg (by omega), jn_take]
      · rw [if_neg hc, jn_take])
    (fun j hj ih => Ev.step (fun k => by
      simp only [spec_Join.l0]
      rw [if_pos (by omega), if_pos (by omega), if_pos (by omega), spec_l1Max_eq, Option.bind_some, if_pos (by simp [jn_length]; omega), rd_get (by omega), rd_get (by omega), ← jn_step (by omega) (by omega), wrapS (n := a.length) (by omega) (by omega)]) ih)
  exact key 0 (Nat.zero_le _)

theorem impl_Join_ev (a b : List Int) (h : a.length ≤ 17592186044415) : Ev (fun k => impl_Join.f k a b) (jn a b) := by
  have key := count_up (L := fun j k => impl_Join.l0 k a b ((jn a b).take j) (j : Int)) (R := fun _ => jn a b) (n := min a.length b.length)
    (Ev.one fun k => by
      simp only [impl_Join.l0]
      by_cases hc : ((min a.length b.length : Nat) : Int) < (a.length : Int)
      · rw [if_pos hc, if_neg (by omega), jn_take]
      · rw [if_neg hc, jn_take])
    (fun j hj ih => Ev.step (fun k => by
      simp only [impl_Join.l0]
      rw [if_pos (by omega), if_pos (by omega), if_pos (by omega), if_pos (by simp [jn_length]; omega), rd_get (by omega), rd_get (by omega), ← jn_step (by omega) (by omega), wrapS (n := a.length) (by omega) (by omega)]) ih)
  exact key 0 (Nat.zero_le _)

theorem FnExactJoin (x0 : (List Int)) (x1 : (List Int)) (ok0 : (x0.length ≤ maxLen ∧ ∀ x ∈ x0, ((Lit.int .i64 x).wf = true))) (ok1 : (x1.length ≤ maxLen ∧ ∀ x ∈ x1, ((Lit.int .i64 x).wf = true))) : ∃ k, laws_FnExactJoin.f k x0 x1 = some true := by
  refine Ev.rounds (g := fun k => laws_FnExactJoin.f k x0 x1) ?_
  simp only [laws_FnExactJoin.f]
  by_cases c0 : (x0.length : Int) > 1048576
  · simp only [if_pos c0]; exact Ev.now _
  by_cases c1 : (x1.length : Int) > 1048576
  · simp only [if_neg c0, if_pos c1]; exact Ev.now _
  simp only [if_neg c0, if_neg c1]
  have hj : (jn x0 x1).length ≤ 1048576 := by rw [jn_length]; omega
  refine Ev.bind (toIntS_ev _ (by omega)) ?_
  refine Ev.bind (toIntS_ev _ (by omega)) ?_
  refine Ev.bind (spec_Join_ev _ _ (by omega)) ?_
  refine Ev.bind (toIntS_ev _ (by omega)) ?_
  refine Ev.bind (toIntS_ev _ (by omega)) ?_
  refine Ev.bind (impl_Join_ev _ _ (by omega)) ?_
  refine Ev.bind (eqIntS_self _ (by omega)) ?_
  simp only [if_true]
  refine Ev.bind (toIntS_ev _ (by omega)) ?_
  refine Ev.bind (eqIntS_self _ (by omega)) ?_
  simp only [if_true]
  refine Ev.bind (toIntS_ev _ (by omega)) ?_
  refine Ev.bind (eqIntS_self _ (by omega)) ?_
  simp only [if_true]
  refine Ev.bind (markIntS_ev _ _ (by omega) (by omega)) ?_
  refine Ev.bind (markIntS_ev _ _ (by omega) (by omega)) ?_
  simp only [if_neg (show ¬ (1 + (x0.length : Int) + (x1.length : Int) < 0) by omega)]
  refine Ev.bind (eqIntS_self _ (by omega)) ?_
  refine Ev.step (fun k => by rw [laws_FnExactJoin.j0]) ?_
  simp only [Bool.not_true, Bool.false_eq_true, if_false]
  refine Ev.bind (markIntS_ev _ _ (by omega) (by omega)) ?_
  refine Ev.bind (heldIntS_ev _ _ (by omega) (by omega)) ?_
  simp only [if_neg (show ¬ (1 + ((jn x0 x1).length : Int) < 0) by omega), if_true]
  refine Ev.bind (toIntS_ev _ (by omega)) ?_
  refine Ev.bind (toIntS_ev _ (by omega)) ?_
  refine Ev.bind (impl_Join_ev _ _ (by omega)) ?_
  refine Ev.bind (eqIntS_self _ (by omega)) ?_
  simp only [if_true]
  refine Ev.bind (heldIntS_ev _ _ (by omega) (by omega)) ?_
  simp only [if_neg (show ¬ (1 + ((jn x0 x1).length : Int) < 0) by omega), if_true]
  exact Ev.now _

end Go.Proofs.Ytdognghekkpmoaa.Pure
