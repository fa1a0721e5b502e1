/- The program's Knows answers what the reference's does, leaves its arguments as they were and hands back memory of its own: the printed law's function is true for all lists of whole numbers (of at most 2^47 bytes each). -/
import Derived.Test.YtdognghekkpmoaaPFnExactKnowsx1
import Derived.Test.YtdognghekkpmoaaLp
namespace Go.Proofs.Ytdognghekkpmoaa.Pure
open Go.RowKit Go.Proofs.Ytdognghekkpmoaa.PFnExactKnows Go.Proofs.YtdognghekkpmoaaW.PrintWords Go.Proofs.YtdognghekkpmoaaW.PrintLast Go.Proofs.Ytdognghekkpmoaa.Lp
set_option linter.unusedVariables false
set_option linter.unusedSimpArgs false

theorem toIntS_ev (l : List Int) (h : l.length ≤ 35184372088832) : Ev (fun k => laws_toIntS.f k l) l := by
  have key := count_up (L := fun j k => laws_toIntS.l0 k l (l.take j ++ List.replicate (l.length - j) 0) (j : Int)) (R := fun _ => l) (n := l.length)
    (Ev.one fun k => by simp [laws_toIntS.l0])
    (fun j hj ih => Ev.step (fun k => by
      simp only [laws_toIntS.l0]
      rw [if_pos (by omega), if_pos (by omega), if_pos (by simp; omega), wrapS hj (by omega), Int.toNat_natCast, fill_set l 0 j hj _ (rd_get hj)]) ih)
  refine Ev.congr (fun k => ?_) (key 0 (Nat.zero_le _))
  unfold laws_toIntS.f
  rw [if_pos (by omega), if_pos (by simpa using h)]
  simp

theorem eqIntS_ev (a b : List Int) (h : a.length ≤ 9223372036854775807) : Ev (fun k => laws_eqIntS.f k a b) (decide (a = b)) := by
  by_cases hl : a.length = b.length
  · have key := count_up (L := fun j k => laws_eqIntS.l0 k a b (j : Int)) (R := fun j => agree a b j) (n := a.length)
      (Ev.one fun k => by simp [laws_eqIntS.l0, agree_end hl])
      (fun j hj ih => by
        by_cases e : a[j] = b[j]
        · exact Ev.step (fun k => by
            simp only [laws_eqIntS.l0]
            rw [if_pos (by omega), if_pos (by omega), if_pos (by omega), if_pos (by rw [rd_get hj, rd_get (by omega), e]), wrapS hj (by omega)]) (by rw [agree_step hj (by omega) e]; exact ih)
        · exact Ev.one fun k => by
            simp only [laws_eqIntS.l0]
            rw [if_pos (by omega), if_pos (by omega), if_pos (by omega), if_neg (by rw [rd_get hj, rd_get (by omega)]; exact e), agree_no hj (by omega) e])
    refine Ev.congr (fun k => ?_) (key 0 (Nat.zero_le _))
    unfold laws_eqIntS.f
    rw [if_pos (by omega)]
    rfl
  · refine Ev.all fun k => ?_
    unfold laws_eqIntS.f
    rw [if_neg (by omega), decide_eq_false (fun e => hl (by rw [e]))]
theorem eqIntS_self (a : List Int) (h : a.length ≤ 9223372036854775807) : Ev (fun k => laws_eqIntS.f k a a) true := by
  have := eqIntS_ev a a h
  simpa using this

/-- Both are as long, and the first is nowhere less. -/
def geq : List Int → List Int → Bool
  | [], [] => true
  | x :: xs, y :: ys => decide (y ≤ x) && geq xs ys
  | _, _ => false
theorem geq_step {a b : List Int} {j : Nat} (ha : j < a.length) (hb : j < b.length) : geq (a.drop j) (b.drop j) = (decide (b[j] ≤ a[j]) && geq (a.drop (j + 1)) (b.drop (j + 1))) := by
  rw [List.drop_eq_getElem_cons ha, List.drop_eq_getElem_cons hb, geq]
theorem geq_len : ∀ {a b : List Int}, a.length ≠ b.length → geq a b = false
  | [], [], h => by simp at h
  | [], _ :: _, _ => rfl
  | _ :: _, [], _ => rfl
  | x :: xs, y :: ys, h => by
    have := geq_len (a := xs) (b := ys) (by simpa using h)
    simp [geq, this]
theorem geq_end {a b : List Int} {n : Nat} (h : n = min a.length b.length) : geq (a.drop n) (b.drop n) = ((a.length : Int) == (b.length : Int)) := by
  by_cases e : a.length = b.length
  · have h1 : a.drop n = [] := by simp; omega
    have h2 : b.drop n = [] := by simp; omega
    simp [h1, h2, geq, e]
  · rw [geq_len (by simp; omega)]
    symm
    simp
    omega

theorem spec_Knows_ev (a b : List Int) (h : a.length ≤ 9223372036854775807) : Ev (fun k => spec_Knows.f k a b) (geq a b) := by
  have key := count_up (L := fun j k => spec_Knows.l0 k a b (j : Int)) (R := fun j => geq (a.drop j) (b.drop j)) (n := min a.length b.length)
    (by
      refine Ev.step (f := fun k => spec_Knows.j1 k a b ((min a.length b.length : Nat) : Int) false) (fun k => ?_) (Ev.one fun k => ?_)
      · simp only [spec_Knows.l0]
        by_cases hc : ((min a.length b.length : Nat) : Int) < (a.length : Int)
        · rw [if_pos hc, decide_eq_false (by omega)]
        · rw [if_neg hc]
      · simp only [spec_Knows.j1]
        rw [if_neg (by simp), geq_end rfl])
    (fun j hj ih => by
      refine Ev.step (f := fun k => spec_Knows.j1 k a b (j : Int) true) (fun k => ?_) ?_
      · simp only [spec_Knows.l0]
        rw [if_pos (by omega), decide_eq_true (by omega)]
      · by_cases e : a[j]'(by omega) < b[j]'(by omega)
        · refine Ev.one fun k => ?_
          simp only [spec_Knows.j1]
          rw [if_pos trivial, if_pos (by omega), if_pos (by omega), if_pos (by omega), if_pos (by rw [rd_get (by omega), rd_get (by omega)]; exact e), geq_step (by omega) (by omega), decide_eq_false (by omega)]
          rfl
        · refine Ev.step (fun k => ?_) (by rw [geq_step (by omega) (by omega), decide_eq_true (by omega), Bool.true_and]; exact ih)
          simp only [spec_Knows.j1]
          rw [if_pos trivial, if_pos (by omega), if_pos (by omega), if_pos (by omega), if_neg (by rw [rd_get (by omega), rd_get (by omega)]; exact e), wrapS (n := a.length) (by omega) h])
  exact key 0 (Nat.zero_le _)

theorem impl_Knows_ev (a b : List Int) (h : a.length ≤ 9223372036854775807) : Ev (fun k => impl_Knows.f k a b) (geq a b) := by
  by_cases hl : a.length = b.length
  · have key := count_up (L := fun j k => impl_Knows.l0 k a b (b.length : Int) (j : Int)) (R := fun j => geq (a.drop j) (b.drop j)) (n := b.length)
      (Ev.one fun k => by
        simp only [impl_Knows.l0]
        rw [if_neg (by omega), geq_end (by omega)]
        simp [hl])
      (fun j hj ih => by
        by_cases e : a[j]'(by omega) < b[j]'(by omega)
        · refine Ev.one fun k => ?_
          simp only [impl_Knows.l0]
          rw [if_pos (by omega), if_pos (by omega), if_pos (by omega), if_pos (by omega), if_pos (by rw [rd_get (by omega), rd_get (by omega)]; exact e), geq_step (by omega) (by omega), decide_eq_false (by omega)]
          rfl
        · refine Ev.step (fun k => ?_) (by rw [geq_step (by omega) (by omega), decide_eq_true (by omega), Bool.true_and]; exact ih)
          simp only [impl_Knows.l0]
          rw [if_pos (by omega), if_pos (by omega), if_pos (by omega), if_pos (by omega), if_neg (by rw [rd_get (by omega), rd_get (by omega)]; exact e), wrapS hj (by omega)])
    refine Ev.congr (fun k => ?_) (key 0 (Nat.zero_le _))
    unfold impl_Knows.f
    rw [if_pos (by omega)]
    rfl
  · refine Ev.all fun k => ?_
    unfold impl_Knows.f
    rw [if_neg (by omega), geq_len hl]

theorem FnExactKnows (x0 : (List Int)) (x1 : (List Int)) (ok0 : (x0.length ≤ maxLen ∧ ∀ x ∈ x0, ((Lit.int .i64 x).wf = true))) (ok1 : (x1.length ≤ maxLen ∧ ∀ x ∈ x1, ((Lit.int .i64 x).wf = true))) : ∃ k, laws_FnExactKnows.f k x0 x1 = some true := by
  refine Ev.rounds (g := fun k => laws_FnExactKnows.f k x0 x1) ?_
  simp only [laws_FnExactKnows.f]
  by_cases c0 : (x0.length : Int) > 1048576
  · simp only [if_pos c0]; exact Ev.now _
  by_cases c1 : (x1.length : Int) > 1048576
  · simp only [if_neg c0, if_pos c1]; exact Ev.now _
  simp only [if_neg c0, if_neg c1]
  refine Ev.bind (toIntS_ev _ (by omega)) ?_
  refine Ev.bind (toIntS_ev _ (by omega)) ?_
  refine Ev.bind (spec_Knows_ev _ _ (by omega)) ?_
  refine Ev.bind (toIntS_ev _ (by omega)) ?_
  refine Ev.bind (toIntS_ev _ (by omega)) ?_
  refine Ev.bind (impl_Knows_ev _ _ (by omega)) ?_
  simp only [bne_self_eq_false, Bool.false_eq_true, if_false]
  refine Ev.bind (toIntS_ev _ (by omega)) ?_
  refine Ev.bind (eqIntS_self _ (by omega)) ?_
  simp only [if_true]
  refine Ev.bind (toIntS_ev _ (by omega)) ?_
  refine Ev.bind (eqIntS_self _ (by omega)) ?_
  simp only [if_true]
  exact Ev.now _

end Go.Proofs.Ytdognghekkpmoaa.Pure
