/- The program's Sets answers what the reference's does, leaves its arguments as they were and hands back memory of its own: the printed law's function is true for all five whole numbers. -/
import Derived.Test.YtdognghekkpmoaaPFnExactSetsx2
import Derived.Test.YtdognghekkpmoaaLp
namespace Go.Proofs.Ytdognghekkpmoaa.Pure
open Go.RowKit Go.Proofs.Ytdognghekkpmoaa.PFnExactSets Go.Proofs.YtdognghekkpmoaaW.PrintWords Go.Proofs.YtdognghekkpmoaaW.PrintLast Go.Proofs.Ytdognghekkpmoaa.Lp
set_option linter.unusedVariables false
set_option linter.unusedSimpArgs false

theorem eqIntS_ev (a b : List Int) (h : a.length ≤ 9223372036854775807) : Ev (fun k => laws_eqIntS.f k a b) (decide (a = b)) := by
  by_cases hl : a.length = b.length
  · have key := count_up (L := fun j k => laws_eqIntS.l0 k a b (j : Int)) (R := fun j => agree a b j) (n := a.length)
      (Ev.one fun k => by simp [laws_eqIntS.l0, agree_end hl])
      (fun j hj ih => by
        by_cases e : a[j] = b[j]
        · exact Ev.step (fun k => by
            simp only [laws_eqIntS.l0]
            rw [if_pos (by omega), if_pos (by omega), if_pos (by omega), if_pos (by rw [rd_get hj, rd_get (by omega), e]), wrapS hj (by omega)]) (by rw [agree_step hj (by omega) e]; exact ih)
        · exact Ev.one fun k => by
            simp only [laws_eqIntS.l0]
            rw [if_pos (by omega), if_pos (by omega), if_pos (by omega), if_neg (by rw [rd_get hj, rd_get (by omega)]; exact e), agree_no hj (by omega) e])
    refine Ev.congr (fun k => ?_) (key 0 (Nat.zero_le _))
    unfold laws_eqIntS.f
    rw [if_pos (by omega)]
    rfl
  · refine Ev.all fun k => ?_
    unfold laws_eqIntS.f
    rw [if_neg (by omega), decide_eq_false (fun e => hl (by rw [e]))]
theorem eqIntS_self (a : List Int) (h : a.length ≤ 9223372036854775807) : Ev (fun k => laws_eqIntS.f k a a) true := by
  have := eqIntS_ev a a h
  simpa using this

theorem markIntS_ev (l : List Int) (a : Int) (h0 : 0 ≤ a) (h : a + l.length ≤ 4611686018427387904) : Ev (fun k => laws_markIntS.f k l a) (a + (l.length : Int), iota a l.length) := by
  have key := count_up (L := fun j k => laws_markIntS.l0 k (iota a j ++ l.drop j) (a + (j : Int)) (j : Int)) (R := fun _ => (a + (l.length : Int), iota a l.length)) (n := l.length)
    (Ev.one fun k => by simp [laws_markIntS.l0, iota_length])
    (fun j hj ih => Ev.step (fun k => by
      simp only [laws_markIntS.l0]
      rw [if_pos (by simp [iota_length]; omega), if_pos (by omega), wrapS hj (by omega), Int.toNat_natCast, mark_set l a j hj, wrap_in (by omega) (by omega), show a + (j : Int) + 1 = a + ((j + 1 : Nat) : Int) by omega]) ih)
  refine Ev.congr (fun k => ?_) (key 0 (Nat.zero_le _))
  unfold laws_markIntS.f
  simp [iota]

theorem heldIntS_ev (n : Nat) (a : Int) (h0 : 0 ≤ a) (h : a + n ≤ 4611686018427387904) : Ev (fun k => laws_heldIntS.f k (iota a n) a) (a + (n : Int)) := by
  have key := count_up (L := fun j k => laws_heldIntS.l0 k (iota a n) (a + (j : Int)) (j : Int)) (R := fun _ => a + (n : Int)) (n := n)
    (Ev.one fun k => by simp [laws_heldIntS.l0, iota_length])
    (fun j hj ih => Ev.step (fun k => by
      simp only [laws_heldIntS.l0]
      rw [if_pos (by rw [iota_length]; omega), if_pos (by omega), if_pos (by rw [rd_get (by rw [iota_length]; exact hj), iota_get]), wrapS hj (by omega), wrap_in (by omega) (by omega), show a + (j : Int) + 1 = a + ((j + 1 : Nat) : Int) by omega]) ih)
  refine Ev.congr (fun k => ?_) (key 0 (Nat.zero_le _))
  unfold laws_heldIntS.f
  simp

/-- The registers that a place takes; that it sets. -/
def readsOf (op r a b n : Int) : List Int := if op = 2 ∨ op = 3 ∨ op = 4 then [a, b] else if op = 5 ∨ op = 7 ∨ op = 10 ∨ op = 12 then [a] else []
def setsOf (op r a b n : Int) : List Int := if op = 1 ∨ op = 2 ∨ op = 3 ∨ op = 4 ∨ op = 7 then [r] else if op = 6 ∨ op = 8 then [r, b] else []
theorem readsOf_length (op r a b n : Int) : (readsOf op r a b n).length ≤ 2 := by
  unfold readsOf
  repeat' split
  all_goals simp
theorem setsOf_length (op r a b n : Int) : (setsOf op r a b n).length ≤ 2 := by
  unfold setsOf
  repeat' split
  all_goals simp

theorem spec_Sets_ev (op r a b n : Int) : Ev (fun k => spec_Sets.f k op r a b n) (setsOf op r a b n) := by
  refine ⟨1, fun k hk => ?_⟩
  obtain ⟨m, rfl⟩ : ∃ m, k = m + 1 := ⟨k - 1, by omega⟩
  simp only [spec_Sets.f, spec_Sets.j0, setsOf]
  by_cases h1 : op = 1
  · subst h1; simp
  by_cases h2 : op = 2
  · subst h2; simp
  by_cases h3 : op = 3
  · subst h3; simp
  by_cases h4 : op = 4
  · subst h4; simp
  by_cases h7 : op = 7
  · subst h7; simp
  by_cases h6 : op = 6
  · subst h6; simp
  by_cases h8 : op = 8
  · subst h8; simp
  simp [h1, h2, h3, h4, h7, h6, h8]

theorem impl_Sets_ev (op r a b n : Int) : Ev (fun k => impl_Sets.f k op r a b n) (setsOf op r a b n) := by
  refine ⟨1, fun k hk => ?_⟩
  obtain ⟨m, rfl⟩ : ∃ m, k = m + 1 := ⟨k - 1, by omega⟩
  simp only [impl_Sets.f, impl_Sets.j0, setsOf]
  by_cases h1 : op = 1
  · subst h1; simp
  by_cases h2 : op = 2
  · subst h2; simp
  by_cases h3 : op = 3
  · subst h3; simp
  by_cases h4 : op = 4
  · subst h4; simp
  by_cases h7 : op = 7
  · subst h7; simp
  by_cases h6 : op = 6
  · subst h6; simp
  by_cases h8 : op = 8
  · subst h8; simp
  simp [h1, h2, h3, h4, h7, h6, h8]

theorem FnExactSets (x0_0 : Int) (x0_1 : Int) (x0_2 : Int) (x0_3 : Int) (x0_4 : Int) (ok0 : (((Lit.int .i64 x0_0).wf = true) ∧ (((Lit.int .i64 x0_1).wf = true) ∧ (((Lit.int .i64 x0_2).wf = true) ∧ (((Lit.int .i64 x0_3).wf = true) ∧ ((Lit.int .i64 x0_4).wf = true)))))) : ∃ k, laws_FnExactSets.f k x0_0 x0_1 x0_2 x0_3 x0_4 = some true := by
  refine Ev.rounds (g := fun k => laws_FnExactSets.f k x0_0 x0_1 x0_2 x0_3 x0_4) ?_
  simp only [laws_FnExactSets.f, laws_toIns.f, Option.bind_some]
  have hl := setsOf_length x0_0 x0_1 x0_2 x0_3 x0_4
  refine Ev.bind (spec_Sets_ev ..) ?_
  refine Ev.bind (impl_Sets_ev ..) ?_
  refine Ev.bind (eqIntS_self _ (by omega)) ?_
  simp only [if_true]
  refine Ev.bind (markIntS_ev _ _ (by omega) (by omega)) ?_
  refine Ev.bind (heldIntS_ev _ _ (by omega) (by omega)) ?_
  simp only [if_neg (show ¬ (1 + ((setsOf x0_0 x0_1 x0_2 x0_3 x0_4).length : Int) < 0) by omega), if_true]
  refine Ev.bind (impl_Sets_ev ..) ?_
  refine Ev.bind (eqIntS_self _ (by omega)) ?_
  simp only [if_true]
  refine Ev.bind (heldIntS_ev _ _ (by omega) (by omega)) ?_
  simp only [if_neg (show ¬ (1 + ((setsOf x0_0 x0_1 x0_2 x0_3 x0_4).length : Int) < 0) by omega), if_true]
  exact Ev.now _

end Go.Proofs.Ytdognghekkpmoaa.Pure
