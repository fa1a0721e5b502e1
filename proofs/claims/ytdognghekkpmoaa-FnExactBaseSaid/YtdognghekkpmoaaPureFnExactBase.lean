/- The program's Base answers what the reference's does, leaves its arguments as they were and hands back memory of its own: the printed law's function is true for all lists of whole numbers (of at most 2^47 bytes) and all whole numbers. -/
import Derived.Test.YtdognghekkpmoaaPFnExactBasex2
import Derived.Test.YtdognghekkpmoaaLp
namespace Go.Proofs.Ytdognghekkpmoaa.Pure
open Go.RowKit Go.Proofs.Ytdognghekkpmoaa.PFnExactBase Go.Proofs.YtdognghekkpmoaaW.PrintWords Go.Proofs.YtdognghekkpmoaaW.PrintLast Go.Proofs.Ytdognghekkpmoaa.Lp
set_option linter.unusedVariables false
set_option linter.unusedSimpArgs false

theorem toIntS_ev (l : List Int) (h : l.length ≤ 35184372088832) : Ev (fun k => laws_toIntS.f k l) l := by
  have key := count_up (L := fun j k => laws_toIntS.l0 k l (l.take j ++ List.replicate (l.length - j) 0) (j : Int)) (R := fun _ => l) (n := l.length)
    (Ev.one fun k => by simp [laws_toIntS.l0])
    (fun j hj ih => Ev.step (fun k => by
      simp only [laws_toIntS.l0]
      rw [if_pos (by omega), if_pos (by omega), if_pos (by simp; omega), wrapS hj (by omega), Int.toNat_natCast, fill_set l 0 j hj _ (rd_get hj)]) ih)
  refine Ev.congr (fun k => ?_) (key 0 (Nat.zero_le _))
  unfold laws_toIntS.f
  rw [if_pos (by omega), if_pos (by simpa using h)]
  simp

theorem eqIntS_ev (a b : List Int) (h : a.length ≤ 9223372036854775807) : Ev (fun k => laws_eqIntS.f k a b) (decide (a = b)) := by
  by_cases hl : a.length = b.length
  · have key := count_up (L := fun j k => laws_eqIntS.l0 k a b (j : Int)) (R := fun j => agree a b j) (n := a.length)
      (Ev.one fun k => by simp [laws_eqIntS.l0, agree_end hl])
      (fun j hj ih => by
        by_cases e : a[j] = b[j]
        · exact Ev.step (fun k => by
            simp only [laws_eqIntS.l0]
            rw [if_pos (by omega), if_pos (by omega), if_pos (by omega), if_pos (by rw [rd_get hj, rd_get (by omega), e]), wrapS hj (by omega)]) (by rw [agree_step hj (by omega) e]; exact ih)
        · exact Ev.one fun k => by
            simp only [laws_eqIntS.l0]
            rw [if_pos (by omega), if_pos (by omega), if_pos (by omega), if_neg (by rw [rd_get hj, rd_get (by omega)]; exact e), agree_no hj (by omega) e])
    refine Ev.congr (fun k => ?_) (key 0 (Nat.zero_le _))
    unfold laws_eqIntS.f
    rw [if_pos (by omega)]
    rfl
  · refine Ev.all fun k => ?_
    unfold laws_eqIntS.f
    rw [if_neg (by omega), decide_eq_false (fun e => hl (by rw [e]))]
theorem eqIntS_self (a : List Int) (h : a.length ≤ 9223372036854775807) : Ev (fun k => laws_eqIntS.f k a a) true := by
  have := eqIntS_ev a a h
  simpa using this

/-- lo .. hi. -/
def inn (a lo hi : Int) : Bool := decide (lo ≤ a ∧ a ≤ hi)

theorem spec_l1In_eq (a lo hi : Int) : spec_l1In.f a lo hi = some (inn a lo hi) := by
  unfold spec_l1In.f inn
  by_cases h : a ≥ lo
  · rw [if_pos h]; congr 1; simp; omega
  · rw [if_neg h, decide_eq_false (by omega)]

theorem impl_within_eq (a lo hi : Int) : impl_within.f a lo hi = some (inn a lo hi) := by
  unfold impl_within.f inn
  by_cases h : a ≥ lo
  · rw [if_pos h]; congr 1; simp; omega
  · rw [if_neg h, decide_eq_false (by omega)]

def capOk (c : Int) : Bool := inn c 1 4
/-- How many cells these have together. -/
def bs : List Int → Int
  | [] => 0
  | c :: l => c + 4 + bs l
theorem bs_append : ∀ a b : List Int, bs (a ++ b) = bs a + bs b
  | [], b => by simp [bs]
  | c :: a, b => by simp only [List.cons_append, bs, bs_append a b]; omega
theorem bs_succ {l : List Int} {j : Nat} (h : j < l.length) : bs (l.take (j + 1)) = bs (l.take j) + (l[j] + 4) := by
  rw [List.take_succ_eq_append_getElem h, bs_append]
  simp [bs]
theorem bs_bound : ∀ l : List Int, l.all capOk = true → 5 * (l.length : Int) ≤ bs l ∧ bs l ≤ 8 * (l.length : Int)
  | [], _ => by simp [bs]
  | c :: l, h => by
    rw [List.all_cons, Bool.and_eq_true] at h
    obtain ⟨h1, h2⟩ := h
    have := bs_bound l h2
    have h3 : 1 ≤ c ∧ c ≤ 4 := by simpa [capOk, inn] using h1
    simp only [bs, List.length_cons]
    omega
theorem all_take {l : List Int} (h : l.all capOk = true) (j : Nat) : (l.take j).all capOk = true := by
  rw [List.all_eq_true] at h ⊢
  exact fun x hx => h x (List.mem_of_mem_take hx)
theorem bs_take_bound {l : List Int} (h : l.all capOk = true) {j : Nat} (hj : j ≤ l.length) : 5 * (j : Int) ≤ bs (l.take j) ∧ bs (l.take j) ≤ 8 * (j : Int) := by
  have := bs_bound (l.take j) (all_take h j)
  rw [List.length_take, Nat.min_eq_left hj] at this
  exact this
theorem capOk_get {l : List Int} (h : l.all capOk = true) {j : Nat} (hj : j < l.length) : 1 ≤ l[j] ∧ l[j] ≤ 4 := by
  have := List.all_eq_true.1 h _ (List.getElem_mem hj)
  simpa [capOk, inn] using this
theorem bs_all (l : List Int) : bs (l.take l.length) = bs l := by rw [List.take_length]
/-- Whether channels of these rooms lie in memory. -/
def laid (l : List Int) : Bool := l.all capOk && decide (bs l ≤ 24)
/-- The first cell of a channel; -1: none. -/
def baseOf (l : List Int) (n : Int) : Int := if laid l = true ∧ 0 ≤ n ∧ n < (l.length : Int) then bs (l.take n.toNat) else -1

theorem spec_l9Base_ev (l : List Int) (h : l.length ≤ 1048576) (ha : l.all capOk = true) (m : Nat) (hm : m ≤ l.length) : Ev (fun k => spec_l9Base.f k l (m : Int)) (bs (l.take m)) := by
  have key := count_up (L := fun j k => spec_l9Base.l0 k l (m : Int) (bs (l.take j)) (j : Int)) (R := fun _ => bs (l.take m)) (n := m)
    (Ev.one fun k => by simp [spec_l9Base.l0])
    (fun j hj ih => by
      have h1 := bs_take_bound ha (j := j) (by omega)
      have h2 := capOk_get ha (j := j) (by omega)
      exact Ev.step (fun k => by
        simp only [spec_l9Base.l0]
        rw [if_pos (by omega), if_pos (by omega), if_pos (by omega), rd_get (by omega), wrap_in (n := bs (l.take j) + l[j]) (by omega) (by omega), wrap_in (by omega) (by omega), wrapS (n := l.length) (by omega) (by omega), show bs (l.take j) + l[j] + 4 = bs (l.take j) + (l[j] + 4) by omega, ← bs_succ]) ih)
  exact key 0 (Nat.zero_le _)
theorem spec_l9Right_ev (l : List Int) (h : l.length ≤ 1048576) : Ev (fun k => spec_l9Right.f k l) (laid l) := by
  by_cases ha : l.all capOk = true
  · have key := count_up (L := fun j k => spec_l9Right.l0 k l (j : Int)) (R := fun _ => laid l) (n := l.length)
      (by
        by_cases h24 : (l.length : Int) ≤ 24
        · refine Ev.step (f := fun k => (spec_l9Base.f k l (l.length : Int)).bind fun t111 => (some (decide (t111 ≤ 24)))) (fun k => ?_) (Ev.bind (spec_l9Base_ev l h ha l.length (Nat.le_refl _)) ?_)
          · simp only [spec_l9Right.l0]
            rw [if_neg (by omega), if_pos h24]
          · rw [bs_all]
            simp only [laid, ha, Bool.true_and]
            exact Ev.now _
        · refine Ev.one fun k => ?_
          simp only [spec_l9Right.l0]
          have := (bs_bound l ha).1
          rw [if_neg (by omega), if_neg h24, laid, decide_eq_false (by omega), Bool.and_false])
      (fun j hj ih => Ev.step (fun k => by
        simp only [spec_l9Right.l0]
        rw [if_pos (by omega), if_pos (by omega), rd_get hj, spec_l1In_eq, Option.bind_some, show inn l[j] 1 4 = true from List.all_eq_true.1 ha _ (List.getElem_mem hj), if_pos rfl, wrapS hj (by omega)]) ih)
    exact key 0 (Nat.zero_le _)
  · have hl : laid l = false := by simp [laid, ha]
    have hf : allFrom capOk l 0 = false := by rw [allFrom_zero]; simpa using ha
    have key : ∀ d j, j + d = l.length → allFrom capOk l j = false → Ev (fun k => spec_l9Right.l0 k l (j : Int)) false := by
      intro d
      induction d with
      | zero =>
        intro j hj hf
        obtain rfl : j = l.length := by omega
        rw [allFrom_end] at hf
        cases hf
      | succ d ih =>
        intro j hj hf
        rw [allFrom_step (by omega)] at hf
        by_cases e : capOk (l[j]'(by omega)) = true
        · rw [e, Bool.true_and] at hf
          exact Ev.step (fun k => by
            simp only [spec_l9Right.l0]
            rw [if_pos (by omega), if_pos (by omega), rd_get (by omega), spec_l1In_eq, Option.bind_some, show inn (l[j]'(by omega)) 1 4 = true from e, if_pos rfl, wrapS (n := l.length) (by omega) (by omega)]) (ih (j + 1) (by omega) hf)
        · refine Ev.one fun k => ?_
          simp only [spec_l9Right.l0]
          rw [if_pos (by omega), if_pos (by omega), rd_get (by omega), spec_l1In_eq, Option.bind_some, if_neg (show ¬ inn (l[j]'(by omega)) 1 4 = true from e)]
    rw [hl]
    exact key l.length 0 (by omega) hf
theorem spec_Base_ev (l : List Int) (h : l.length ≤ 1048576) (n : Int) : Ev (fun k => spec_Base.f k l n) (baseOf l n) := by
  simp only [spec_Base.f]
  refine Ev.bind (spec_l9Right_ev l h) ?_
  by_cases hl : laid l = true
  · simp only [hl, if_true, spec_l1In_eq, Option.bind_some]
    rw [wrap_in (by omega) (by omega)]
    by_cases hn : 0 ≤ n ∧ n < (l.length : Int)
    · have hi : inn n 0 ((l.length : Int) - 1) = true := by simp [inn]; omega
      have ha : l.all capOk = true := by simp only [laid, Bool.and_eq_true] at hl; exact hl.1
      simp only [hi, if_true]
      obtain ⟨m, rfl⟩ := Int.eq_ofNat_of_zero_le hn.1
      refine Ev.bind (spec_l9Base_ev l h ha m (by omega)) ?_
      rw [baseOf, if_pos ⟨hl, hn⟩, Int.toNat_natCast]
      exact Ev.now _
    · have hi : inn n 0 ((l.length : Int) - 1) = false := by simp [inn]; omega
      simp only [hi, Bool.false_eq_true, if_false]
      rw [baseOf, if_neg (fun c => hn c.2)]
      exact Ev.now _
  · simp only [hl, if_false]
    rw [baseOf, if_neg (fun c => hl c.1)]
    exact Ev.now _

theorem impl_capsOk_ev (l : List Int) (h : l.length ≤ 9223372036854775807) : Ev (fun k => impl_capsOk.f k l) (l.all capOk) := by
  have key := count_up (L := fun j k => impl_capsOk.l0 k l (l.length : Int) (j : Int)) (R := fun j => allFrom capOk l j) (n := l.length)
    (Ev.one fun k => by simp [impl_capsOk.l0, allFrom_end])
    (fun j hj ih => by
      by_cases e : capOk l[j] = true
      · exact Ev.step (fun k => by
          simp only [impl_capsOk.l0]
          rw [if_pos (by omega), if_pos (by omega), if_pos (by omega), rd_get hj, impl_within_eq, Option.bind_some, show inn l[j] 1 4 = true from e, if_pos rfl, wrapS hj (by omega)]) (by rw [allFrom_step hj, e, Bool.true_and]; exact ih)
      · refine Ev.one fun k => ?_
        simp only [impl_capsOk.l0]
        rw [if_pos (by omega), if_pos (by omega), if_pos (by omega), rd_get hj, impl_within_eq, Option.bind_some, if_neg (show ¬ inn l[j] 1 4 = true from e), allFrom_step hj]
        simp [e])
  exact key 0 (Nat.zero_le _)

theorem impl_Base_ev (l : List Int) (h : l.length ≤ 1048576) (n : Int) : Ev (fun k => impl_Base.f k l n) (baseOf l n) := by
  simp only [impl_Base.f, impl_within_eq, Option.bind_some]
  rw [wrap_in (by omega) (by omega)]
  by_cases hn : 0 ≤ n ∧ n < (l.length : Int)
  · have hi : inn n 0 ((l.length : Int) - 1) = true := by simp [inn]; omega
    simp only [hi, if_true]
    refine Ev.bind (impl_capsOk_ev l (by omega)) ?_
    by_cases ha : l.all capOk = true
    · obtain ⟨m, rfl⟩ := Int.eq_ofNat_of_zero_le hn.1
      rw [ha, Bool.not_true]
      refine Ev.step (f := fun k => impl_Base.l0 k (m : Int) 0 0 l (l.length : Int) 0) (fun k => by rw [impl_Base.j0, if_neg (by simp)]) ?_
      have key := count_up (L := fun j k => impl_Base.l0 k (m : Int) (bs (l.take (min j m))) (bs (l.take j)) l (l.length : Int) (j : Int)) (R := fun _ => baseOf l (m : Int)) (n := l.length)
        (Ev.one fun k => by
          simp only [impl_Base.l0]
          rw [if_neg (by omega), bs_all, baseOf, Int.toNat_natCast, Nat.min_eq_right (by omega)]
          by_cases h24 : bs l ≤ 24
          · rw [if_neg (by omega), if_pos ⟨by simp [laid, ha, h24], hn⟩]
          · rw [if_pos (by omega), if_neg (fun c => by have := c.1; simp [laid, h24] at this)])
        (fun j hj ih => by
          have h1 := bs_take_bound ha (j := j) (by omega)
          have h2 := capOk_get ha (j := j) (by omega)
          have h3 := bs_take_bound ha (j := min j m) (by omega)
          refine Ev.step (fun k => ?_) ih
          simp only [impl_Base.l0]
          rw [if_pos (by omega), if_pos (by omega), if_pos (by omega), rd_get (by omega), wrap_in (n := l[j] + 4) (by omega) (by omega), wrap_in (n := bs (l.take j) + (l[j] + 4)) (by omega) (by omega), wrapS hj (by omega), ← bs_succ]
          by_cases hc : (j : Int) < (m : Int)
          · rw [if_pos hc, wrap_in (by omega) (by omega), Nat.min_eq_left (by omega), Nat.min_eq_left (by omega), ← bs_succ]
          · rw [if_neg hc, Nat.min_eq_right (by omega), Nat.min_eq_right (by omega)])
      exact key 0 (Nat.zero_le _)
    · rw [show l.all capOk = false by simpa using ha, Bool.not_false, baseOf, if_neg (fun c => by have := c.1; simp only [laid, Bool.and_eq_true] at this; exact ha this.1)]
      exact Ev.one fun k => by rw [impl_Base.j0, if_pos rfl]
  · have hi : inn n 0 ((l.length : Int) - 1) = false := by simp [inn]; omega
    simp only [hi, Bool.false_eq_true, if_false]
    rw [baseOf, if_neg (fun c => hn c.2)]
    exact Ev.one fun k => by rw [impl_Base.j0, if_pos rfl]

theorem FnExactBase (x0 : (List Int)) (x1 : Int) (ok0 : (x0.length ≤ maxLen ∧ ∀ x ∈ x0, ((Lit.int .i64 x).wf = true))) (ok1 : ((Lit.int .i64 x1).wf = true)) : ∃ k, laws_FnExactBase.f k x0 x1 = some true := by
  refine Ev.rounds (g := fun k => laws_FnExactBase.f k x0 x1) ?_
  simp only [laws_FnExactBase.f]
  by_cases c0 : (x0.length : Int) > 1048576
  · simp only [if_pos c0]; exact Ev.now _
  simp only [if_neg c0]
  refine Ev.bind (toIntS_ev _ (by omega)) ?_
  refine Ev.bind (spec_Base_ev _ (by omega) _) ?_
  refine Ev.bind (toIntS_ev _ (by omega)) ?_
  refine Ev.bind (impl_Base_ev _ (by omega) _) ?_
  simp only [if_true]
  refine Ev.bind (toIntS_ev _ (by omega)) ?_
  refine Ev.bind (eqIntS_self _ (by omega)) ?_
  simp only [if_true]
  exact Ev.now _

end Go.Proofs.Ytdognghekkpmoaa.Pure
