/- The program's BodyOk answers what the reference's does and leaves its arguments as they were: the printed law's function is true for all lists of places and numbers of channels. -/
import Derived.Test.YtpefeaiglkkkoaaPFnExactBodyOkx8
import Derived.Test.YtpefeaiglkkkoaaLp
namespace Go.Proofs.Ytpefeaiglkkkoaa.Pure
open Go.RowKit Go.Proofs.Ytpefeaiglkkkoaa.PFnExactBodyOk Go.Proofs.YtpefeaiglkkkoaaW.PrintWords Go.Proofs.YtpefeaiglkkkoaaW.PrintLast Go.Proofs.Ytpefeaiglkkkoaa.Lp
set_option linter.unusedVariables false
set_option linter.unusedSimpArgs false

def cvIns (x : S104) : S52 := ⟨x.f0, x.f1, x.f2, x.f3, x.f4⟩

theorem szInsS_ev (l : (List S104)) (a : Int) (h0 : 0 ≤ a) (hB : a ≤ 1048576) (hl : l.length ≤ 9223372036854775807) : Ev (fun k => laws_szInsS.f l a) (left? l.length a) := by
  refine Ev.all fun k => ?_
  unfold laws_szInsS.f left?
  rw [wrap_in (by omega) (by omega)]
  by_cases h : (l.length : Int) ≤ a
  · rw [if_neg (by omega), if_pos h]
  · rw [if_pos (by omega), if_neg h]

theorem toIns_ev (a_0 : Int) (a_1 : Int) (a_2 : Int) (a_3 : Int) (a_4 : Int)  : Ev (fun k => laws_toIns.f a_0 a_1 a_2 a_3 a_4) (a_0, a_1, a_2, a_3, a_4) := by
  exact Ev.all fun k => rfl

theorem toInsS_ev (xs : (List S104)) (h : xs.length ≤ 1048576) : Ev (fun k => laws_toInsS.f k xs) (xs.map cvIns) := by
  have rd_e : ∀ (j : Nat) (hj : j < xs.length), rd_T104 xs (j : Int) = xs[j] := fun j hj => by simp [rd_T104, List.getD_eq_getElem?_getD, hj]
  have key := to_loop (L := fun j ys k => laws_toInsS.l0 k xs ys (j : Int)) xs cvIns z52 (fun ys _ => Ev.one fun k => by simp only [laws_toInsS.l0]; rw [if_neg (by omega)])
    (fun j hj ys hy r ih => by
      refine Ev.step (fun k => by simp only [laws_toInsS.l0]; rw [if_pos (by omega), if_pos (by omega), rd_e j hj]) (Ev.bind (toIns_ev (xs[j].f0) (xs[j].f1) (xs[j].f2) (xs[j].f3) (xs[j].f4) ) ?_)
      refine Ev.ite_pos (by omega) ?_
      rw [wrapS hj (by omega), Int.toNat_natCast]
      exact ih)
  refine Ev.congr (fun k => ?_) key
  unfold laws_toInsS.f
  rw [if_pos (by omega), if_pos (by simp; omega)]
  simp only [Int.toNat_natCast]
  rfl

theorem eqIns_self (a_0 : Int) (a_1 : Int) (a_2 : Int) (a_3 : Int) (a_4 : Int)  : Ev (fun k => laws_eqIns.f a_0 a_1 a_2 a_3 a_4 a_0 a_1 a_2 a_3 a_4) true := by
  exact Ev.all fun k => by simp [laws_eqIns.f]

theorem eqInsS_self (xs : (List S52)) (h : xs.length ≤ 1048576) : Ev (fun k => laws_eqInsS.f k xs xs) true := by
  have rd_e : ∀ (j : Nat) (hj : j < xs.length), rd_T52 xs (j : Int) = xs[j] := fun j hj => by simp [rd_T52, List.getD_eq_getElem?_getD, hj]
  have key := yes_loop (L := fun j k => laws_eqInsS.l0 k xs xs (j : Int)) xs.length true (Ev.one fun k => by simp only [laws_eqInsS.l0]; rw [if_neg (by omega)])
    (fun j hj ih => by
      refine Ev.step (fun k => by simp only [laws_eqInsS.l0]; rw [if_pos (by omega), if_pos (by omega), if_pos (by omega), rd_e j hj]) (Ev.bind (eqIns_self (xs[j].f0) (xs[j].f1) (xs[j].f2) (xs[j].f3) (xs[j].f4) ) ?_)
      refine Ev.ite_pos rfl ?_
      rw [wrapS hj (by omega)]
      exact ih)
  refine Ev.congr (fun k => ?_) key
  unfold laws_eqInsS.f
  rw [if_pos rfl]
  rfl

/-- lo .. hi. -/
def inn (a lo hi : Int) : Bool := decide (lo ≤ a ∧ a ≤ hi)

theorem spec_l1In_eq (a lo hi : Int) : spec_l1In.f a lo hi = some (inn a lo hi) := by
  unfold spec_l1In.f inn
  by_cases h : a ≥ lo
  · rw [if_pos h]; congr 1; simp; omega
  · rw [if_neg h, decide_eq_false (by omega)]

theorem impl_within_eq (a lo hi : Int) : impl_within.f a lo hi = some (inn a lo hi) := by
  unfold impl_within.f inn
  by_cases h : a ≥ lo
  · rw [if_pos h]; congr 1; simp; omega
  · rw [if_neg h, decide_eq_false (by omega)]

/-- What a right place is, for so many places and channels. -/
def InsR (op r a b n p c : Int) : Prop :=
  (0 ≤ r ∧ r ≤ 3) ∧ (0 ≤ a ∧ a ≤ 3) ∧ (0 ≤ b ∧ b ≤ 3) ∧ (0 ≤ c ∧ c ≤ 3) ∧
  ((op = 1 ∧ (-1000000000 ≤ n ∧ n ≤ 1000000000) ∧ a = 0 ∧ b = 0) ∨ ((op = 2 ∨ op = 3 ∨ op = 4) ∧ n = 0) ∨ (op = 5 ∧ (0 ≤ n ∧ n < c) ∧ r = 0 ∧ b = 0) ∨
   ((op = 6 ∨ op = 8) ∧ (0 ≤ n ∧ n < c) ∧ a = 0 ∧ r ≠ b) ∨ (op = 7 ∧ (0 ≤ n ∧ n < c) ∧ b = 0) ∨ (op = 9 ∧ (0 ≤ n ∧ n < c) ∧ r = 0 ∧ a = 0 ∧ b = 0) ∨ (op = 10 ∧ r = 0 ∧ b = 0 ∧ n = 0) ∨
   (op = 11 ∧ (0 ≤ n ∧ n < p) ∧ r = 0 ∧ a = 0 ∧ b = 0) ∨ (op = 12 ∧ (0 ≤ n ∧ n < p) ∧ r = 0 ∧ b = 0) ∨ (op = 13 ∧ r = 0 ∧ a = 0 ∧ b = 0 ∧ n = 0))
instance (op r a b n p c : Int) : Decidable (InsR op r a b n p c) := by unfold InsR; infer_instance
def insOk (op r a b n p c : Int) : Bool := decide (InsR op r a b n p c)
theorem op_cases (op : Int) : op = 1 ∨ op = 2 ∨ op = 3 ∨ op = 4 ∨ op = 5 ∨ op = 6 ∨ op = 7 ∨ op = 8 ∨ op = 9 ∨ op = 10 ∨ op = 11 ∨ op = 12 ∨ op = 13 ∨ (op < 1 ∨ 13 < op) := by omega
theorem wrap_pred {p : Int} (h0 : -9223372036854775807 ≤ p) (h1 : p ≤ 9223372036854775807) : wrap64 (p - 1) = p - 1 := wrap_in (by omega) (by omega)

theorem spec_InsOk_ev (op r a b n p c : Int) : Ev (fun k => spec_InsOk.f k op r a b n p c) (insOk op r a b n p c) := by
  refine ⟨5, fun k hk => ?_⟩
  obtain ⟨m, rfl⟩ : ∃ m, k = m + 5 := ⟨k - 5, by omega⟩
  by_cases hcc : 0 ≤ c ∧ c ≤ 3
  case neg =>
    have h' : ¬ InsR op r a b n p c := by unfold InsR; omega
    simp only [spec_InsOk.f, spec_InsOk.j0, spec_l1In_eq, Option.bind_some, inn, insOk, decide_eq_false hcc, decide_eq_false h', Bool.not_false, if_true]
    repeat' split
    all_goals rfl
  have hc : -9223372036854775807 ≤ c := by omega
  have hc' : c ≤ 9223372036854775807 := by omega
  simp only [spec_InsOk.f, spec_InsOk.j0, spec_InsOk.j1, spec_InsOk.j2, spec_InsOk.j3, spec_l1In_eq, Option.bind_some, inn, insOk, decide_eq_true_eq, wrap_pred hc hc']
  rcases op_cases op with rfl | rfl | rfl | rfl | rfl | rfl | rfl | rfl | rfl | rfl | rfl | rfl | rfl | h
  case inr.inr.inr.inr.inr.inr.inr.inr.inr.inr.inr.inr.inr =>
    have h' : ¬ InsR op r a b n p c := by unfold InsR; omega
    have h4 : (op == 4) = false := by simpa using (show ¬ op = 4 by omega)
    have h8 : (op == 8) = false := by simpa using (show ¬ op = 8 by omega)
    simp only [if_neg (show ¬ op = 1 by omega), if_neg (show ¬ op = 2 by omega), if_neg (show ¬ op = 3 by omega), if_neg (show ¬ op = 5 by omega), if_neg (show ¬ op = 6 by omega), if_neg (show ¬ op = 7 by omega), if_neg (show ¬ op = 9 by omega), if_neg (show ¬ op = 10 by omega), if_neg (show ¬ op = 11 by omega), if_neg (show ¬ op = 12 by omega), if_neg (show ¬ op = 13 by omega), decide_eq_false h', h4, h8, Bool.false_eq_true, if_false]
    repeat' split
    all_goals rfl
  all_goals
    simp only [InsR]
    simp
    repeat' split
    all_goals first
      | (congr 1; rw [Bool.eq_iff_iff]; simp; omega)
      | (simp; omega)

theorem impl_isReg_eq (a : Int) : impl_isReg.f a = some (inn a 0 3) := by simp [impl_isReg.f, impl_within_eq]
theorem impl_ofChan_eq (a : Int) : impl_ofChan.f a = some (inn a 5 9) := by simp [impl_ofChan.f, impl_within_eq]
theorem impl_InsOk_ev (op r a b n p c : Int) (hp : -9223372036854775807 ≤ p) (hp' : p ≤ 9223372036854775807) : Ev (fun k => impl_InsOk.f k op r a b n p c) (insOk op r a b n p c) := by
  refine ⟨8, fun k hk => ?_⟩
  obtain ⟨m, rfl⟩ : ∃ m, k = m + 8 := ⟨k - 8, by omega⟩
  by_cases hcc : 0 ≤ c ∧ c ≤ 3
  case neg =>
    have h' : ¬ InsR op r a b n p c := by unfold InsR; omega
    simp only [impl_InsOk.f, impl_InsOk.j0, impl_within_eq, Option.bind_some, inn, insOk, decide_eq_false hcc, decide_eq_false h', Bool.false_eq_true, if_false, if_true]
  have hc : -9223372036854775807 ≤ c := by omega
  have hc' : c ≤ 9223372036854775807 := by omega
  simp only [impl_InsOk.f, impl_InsOk.j0, impl_InsOk.j1, impl_InsOk.j2, impl_named.f, impl_named.j0, impl_named.j1, impl_named.j2, impl_named.j3, impl_isReg_eq, impl_ofChan_eq, impl_within_eq, Option.bind_some, inn, insOk, decide_eq_true_eq, wrap_pred hc hc', wrap_pred hp hp']
  rcases op_cases op with rfl | rfl | rfl | rfl | rfl | rfl | rfl | rfl | rfl | rfl | rfl | rfl | rfl | h
  case inr.inr.inr.inr.inr.inr.inr.inr.inr.inr.inr.inr.inr =>
    have h' : ¬ InsR op r a b n p c := by unfold InsR; omega
    simp only [if_neg (show ¬ (1 ≤ op ∧ op ≤ 13) by omega), decide_eq_false h', if_true]
    repeat' split
    all_goals rfl
  all_goals
    simp only [InsR]
    simp
    repeat' split
    all_goals first
      | (congr 1; rw [Bool.eq_iff_iff]; simp; omega)
      | (simp; omega)

/-- A right body, for so many channels. -/
def insIn (p c : Int) (x : S52) : Bool := insOk x.f0 x.f1 x.f2 x.f3 x.f4 p c
def lastOk (l : List S52) : Bool := decide ((l.getD (l.length - 1) z52).f0 = 13 ∨ (l.getD (l.length - 1) z52).f0 = 11)
def bodyOk (l : List S52) (c : Int) : Bool := l.all (insIn (l.length : Int) c) && (inn (l.length : Int) 1 24 && inn c 0 3 && lastOk l)
theorem rd_ins (l : List S52) (j : Nat) (h : j < l.length) : rd_T52 l (j : Int) = l[j] := by simp [rd_T52, List.getD_eq_getElem?_getD, h]
theorem last_ok (l : List S52) : (if (l.getD (l.length - 1) z52).f0 = 13 then some true else some ((l.getD (l.length - 1) z52).f0 == 11)) = some (lastOk l) := by
  unfold lastOk
  generalize (l.getD (l.length - 1) z52).f0 = q
  by_cases h : q = 13
  · rw [if_pos h, decide_eq_true (.inl h)]
  · rw [if_neg h]
    congr 1
    rw [Bool.eq_iff_iff]
    simp [h]
theorem rd_last (l : List S52) (h : 1 ≤ l.length) : rd_T52 l ((l.length : Int) - 1) = l.getD (l.length - 1) z52 := by
  rw [rd_T52, show ((l.length : Int) - 1).toNat = l.length - 1 by omega]

theorem spec_BodyOk_ev (l : List S52) (c : Int) (hl : l.length ≤ 1048576) : Ev (fun k => spec_BodyOk.f k l c) (bodyOk l c) := by
  refine all_loop (L := fun j k => spec_BodyOk.l0 k l c (l.length : Int) (j : Int)) l (insIn (l.length : Int) c) ?_ (fun j hj hp r ih => ?_) (fun j hj hp => ?_)
  · refine Ev.one fun k => ?_
    simp only [spec_BodyOk.l0, spec_l1In_eq, Option.bind_some]
    rw [if_neg (by omega)]
    by_cases h1 : inn (l.length : Int) 1 24 = true
    · have h1' : 1 ≤ (l.length : Int) := by simp only [inn, decide_eq_true_eq] at h1; exact h1.1
      by_cases h2 : inn c 0 3 = true
      · rw [if_pos h1, if_pos h2, wrap_in (by omega) (by omega), if_pos (by omega), if_pos (by omega), rd_last l (by omega), last_ok, h1, h2]
        rfl
      · rw [if_pos h1, if_neg h2, h1, show inn c 0 3 = false by simpa using h2]
        rfl
    · rw [if_neg h1, show inn (l.length : Int) 1 24 = false by simpa using h1]
      rfl
  · refine Ev.step (fun k => by simp only [spec_BodyOk.l0]; rw [if_pos (by omega), if_pos (by omega), if_pos (by omega), rd_ins l j hj]) (Ev.bind (spec_InsOk_ev _ _ _ _ _ _ _) ?_)
    refine Ev.ite_pos hp ?_
    rw [wrapS hj (by omega)]
    exact ih
  · refine Ev.step (fun k => by simp only [spec_BodyOk.l0]; rw [if_pos (by omega), if_pos (by omega), if_pos (by omega), rd_ins l j hj]) (Ev.bind (spec_InsOk_ev _ _ _ _ _ _ _) ?_)
    exact Ev.ite_neg (fun e => by have e' : insIn (l.length : Int) c l[j] = true := e; rw [hp] at e'; cases e') (Ev.now _)

theorem impl_BodyOk_ev (l : List S52) (c : Int) (hl : l.length ≤ 1048576) : Ev (fun k => impl_BodyOk.f k l c) (bodyOk l c) := by
  simp only [impl_BodyOk.f, impl_within_eq, Option.bind_some]
  by_cases h2 : inn c 0 3 = true
  · have h2' : 0 ≤ c ∧ c ≤ 3 := by simpa [inn] using h2
    refine Ev.ite_pos h2 ?_
    by_cases h1 : inn (l.length : Int) 1 24 = true
    · have h1' : 1 ≤ (l.length : Int) := by simp only [inn, decide_eq_true_eq] at h1; exact h1.1
      rw [h1]
      refine Ev.step (fun k => by rw [impl_BodyOk.j0, if_neg (by simp)]) ?_
      refine Ev.val (r := l.all (insIn (l.length : Int) c) && lastOk l) (by unfold bodyOk; rw [h1, h2]; simp) ?_
      refine all_loop (L := fun j k => impl_BodyOk.l0 k l c l (l.length : Int) (j : Int)) l (insIn (l.length : Int) c) ?_ (fun j hj hp r ih => ?_) (fun j hj hp => ?_)
      · refine Ev.one fun k => ?_
        simp only [impl_BodyOk.l0]
        rw [if_neg (by omega), wrap_in (by omega) (by omega), if_pos (by omega), if_pos (by omega), rd_last l (by omega), last_ok]
      · refine Ev.step (fun k => by simp only [impl_BodyOk.l0]; rw [if_pos (by omega), if_pos (by omega), if_pos (by omega), rd_ins l j hj]) (Ev.bind (impl_InsOk_ev _ _ _ _ _ _ _ (by omega) (by omega)) ?_)
        refine Ev.ite_pos hp ?_
        rw [wrapS hj (by omega)]
        exact ih
      · refine Ev.step (fun k => by simp only [impl_BodyOk.l0]; rw [if_pos (by omega), if_pos (by omega), if_pos (by omega), rd_ins l j hj]) (Ev.bind (impl_InsOk_ev _ _ _ _ _ _ _ (by omega) (by omega)) ?_)
        exact Ev.ite_neg (fun e => by have e' : insIn (l.length : Int) c l[j] = true := e; rw [hp] at e'; cases e') (Ev.now _)
    · have h1' : inn (l.length : Int) 1 24 = false := by simpa using h1
      rw [h1']
      refine Ev.one fun k => ?_
      rw [impl_BodyOk.j0, if_pos (by simp), bodyOk, h1']
      simp
  · have h2' : inn c 0 3 = false := by simpa using h2
    refine Ev.ite_neg h2 ?_
    refine Ev.one fun k => ?_
    rw [impl_BodyOk.j0, if_pos rfl, bodyOk, h2']
    simp

theorem FnExactBodyOk (x0 : (List S104)) (x1 : Int) (ok0 : (x0.length ≤ maxLen ∧ ∀ z ∈ x0, (((Lit.int .i64 z.f0).wf = true) ∧ (((Lit.int .i64 z.f1).wf = true) ∧ (((Lit.int .i64 z.f2).wf = true) ∧ (((Lit.int .i64 z.f3).wf = true) ∧ ((Lit.int .i64 z.f4).wf = true))))))) (ok1 : ((Lit.int .i64 x1).wf = true)) : ∃ k, laws_FnExactBodyOk.f k x0 x1 = some true := by
  have hl : x0.length ≤ 9223372036854775807 := by have := ok0.1; unfold maxLen at this; omega
  refine Ev.rounds (g := fun k => laws_FnExactBodyOk.f k x0 x1) ?_
  simp only [laws_FnExactBodyOk.f]
  refine Ev.bind (szInsS_ev x0 1048576 (by omega) (by omega) hl) ?_
  by_cases h : (x0.length : Int) ≤ 1048576
  case neg => rw [left?_no h]; exact Ev.ite_pos (by omega) (Ev.now _)
  rw [left?_yes h]
  refine Ev.ite_neg (by omega) ?_
  have hm : (x0.map cvIns).length ≤ 1048576 := by simp; omega
  refine Ev.bind (toInsS_ev x0 (by omega)) ?_
  refine Ev.bind (spec_BodyOk_ev _ x1 hm) ?_
  refine Ev.bind (toInsS_ev x0 (by omega)) ?_
  refine Ev.bind (impl_BodyOk_ev _ x1 hm) ?_
  simp only [bne_self_eq_false, Bool.false_eq_true, if_false]
  refine Ev.bind (toInsS_ev x0 (by omega)) ?_
  refine Ev.bind (eqInsS_self _ hm) ?_
  simp only [if_true]
  exact Ev.now _

end Go.Proofs.Ytpefeaiglkkkoaa.Pure
