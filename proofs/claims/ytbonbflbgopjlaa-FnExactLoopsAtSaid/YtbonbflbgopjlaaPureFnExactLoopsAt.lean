/- The program's LoopsAt answers what the reference's does and leaves its arguments as they were: the printed law's function is true for all bodies and places. -/
import Derived.Test.YtbonbflbgopjlaaPFnExactLoopsAtx17
import Derived.Test.YtbonbflbgopjlaaLp
namespace Go.Proofs.Ytbonbflbgopjlaa.Pure
open Go.RowKit Go.Proofs.Ytbonbflbgopjlaa.PFnExactLoopsAt Go.Proofs.YtbonbflbgopjlaaW.PrintWords Go.Proofs.YtbonbflbgopjlaaW.PrintLast Go.Proofs.Ytbonbflbgopjlaa.Lp
set_option linter.unusedVariables false
set_option linter.unusedSimpArgs false

def cvIns (x : S64) : S62 := ⟨x.f0, x.f1, x.f2, x.f3, x.f4⟩

theorem szInsS_ev (l : (List S64)) (a : Int) (h0 : 0 ≤ a) (hB : a ≤ 1048576) (hl : l.length ≤ 9223372036854775807) : Ev (fun k => laws_szInsS.f l a) (left? l.length a) := by
  refine Ev.all fun k => ?_
  unfold laws_szInsS.f left?
  rw [wrap_in (by omega) (by omega)]
  by_cases h : (l.length : Int) ≤ a
  · rw [if_neg (by omega), if_pos h]
  · rw [if_pos (by omega), if_neg h]

theorem toIns_ev (a_0 : Int) (a_1 : Int) (a_2 : Int) (a_3 : Int) (a_4 : Int)  : Ev (fun k => laws_toIns.f a_0 a_1 a_2 a_3 a_4) (a_0, a_1, a_2, a_3, a_4) := by
  exact Ev.all fun k => rfl

theorem toInsS_ev (xs : (List S64)) (h : xs.length ≤ 1048576) : Ev (fun k => laws_toInsS.f k xs) (xs.map cvIns) := by
  have rd_e : ∀ (j : Nat) (hj : j < xs.length), rd_T64 xs (j : Int) = xs[j] := fun j hj => by simp [rd_T64, List.getD_eq_getElem?_getD, hj]
  have key := to_loop (L := fun j ys k => laws_toInsS.l0 k xs ys (j : Int)) xs cvIns z62 (fun ys _ => Ev.one fun k => by simp only [laws_toInsS.l0]; rw [if_neg (by omega)])
    (fun j hj ys hy r ih => by
      refine Ev.step (fun k => by simp only [laws_toInsS.l0]; rw [if_pos (by omega), if_pos (by omega), rd_e j hj]) (Ev.bind (toIns_ev (xs[j].f0) (xs[j].f1) (xs[j].f2) (xs[j].f3) (xs[j].f4) ) ?_)
      refine Ev.ite_pos (by omega) ?_
      rw [wrapS hj (by omega), Int.toNat_natCast]
      exact ih)
  refine Ev.congr (fun k => ?_) key
  unfold laws_toInsS.f
  rw [if_pos (by omega), if_pos (by simp; omega)]
  simp only [Int.toNat_natCast]
  rfl

theorem eqIns_self (a_0 : Int) (a_1 : Int) (a_2 : Int) (a_3 : Int) (a_4 : Int)  : Ev (fun k => laws_eqIns.f a_0 a_1 a_2 a_3 a_4 a_0 a_1 a_2 a_3 a_4) true := by
  exact Ev.all fun k => by simp [laws_eqIns.f]

theorem eqInsS_self (xs : (List S62)) (h : xs.length ≤ 1048576) : Ev (fun k => laws_eqInsS.f k xs xs) true := by
  have rd_e : ∀ (j : Nat) (hj : j < xs.length), rd_T62 xs (j : Int) = xs[j] := fun j hj => by simp [rd_T62, List.getD_eq_getElem?_getD, hj]
  have key := yes_loop (L := fun j k => laws_eqInsS.l0 k xs xs (j : Int)) xs.length true (Ev.one fun k => by simp only [laws_eqInsS.l0]; rw [if_neg (by omega)])
    (fun j hj ih => by
      refine Ev.step (fun k => by simp only [laws_eqInsS.l0]; rw [if_pos (by omega), if_pos (by omega), if_pos (by omega), rd_e j hj]) (Ev.bind (eqIns_self (xs[j].f0) (xs[j].f1) (xs[j].f2) (xs[j].f3) (xs[j].f4) ) ?_)
      refine Ev.ite_pos rfl ?_
      rw [wrapS hj (by omega)]
      exact ih)
  refine Ev.congr (fun k => ?_) key
  unfold laws_eqInsS.f
  rw [if_pos rfl]
  rfl

/-- lo .. hi. -/
def inn (a lo hi : Int) : Bool := decide (lo ≤ a ∧ a ≤ hi)

theorem spec_l1In_eq (a lo hi : Int) : spec_l1In.f a lo hi = some (inn a lo hi) := by
  unfold spec_l1In.f inn
  by_cases h : a ≥ lo
  · rw [if_pos h]; congr 1; simp; omega
  · rw [if_neg h, decide_eq_false (by omega)]

theorem impl_within_eq (a lo hi : Int) : impl_within.f a lo hi = some (inn a lo hi) := by
  unfold impl_within.f inn
  by_cases h : a ≥ lo
  · rw [if_pos h]; congr 1; simp; omega
  · rw [if_neg h, decide_eq_false (by omega)]

/-- What a right place is, for so many places and channels. -/
def InsR (op r a b n p c : Int) : Prop :=
  (0 ≤ r ∧ r ≤ 3) ∧ (0 ≤ a ∧ a ≤ 3) ∧ (0 ≤ b ∧ b ≤ 3) ∧ (0 ≤ c ∧ c ≤ 3) ∧
  ((op = 1 ∧ (-1000000000 ≤ n ∧ n ≤ 1000000000) ∧ a = 0 ∧ b = 0) ∨ ((op = 2 ∨ op = 3 ∨ op = 4) ∧ n = 0) ∨ (op = 5 ∧ (0 ≤ n ∧ n < c) ∧ r = 0 ∧ b = 0) ∨
   ((op = 6 ∨ op = 8) ∧ (0 ≤ n ∧ n < c) ∧ a = 0 ∧ r ≠ b) ∨ (op = 7 ∧ (0 ≤ n ∧ n < c) ∧ b = 0) ∨ (op = 9 ∧ (0 ≤ n ∧ n < c) ∧ r = 0 ∧ a = 0 ∧ b = 0) ∨ (op = 10 ∧ r = 0 ∧ b = 0 ∧ n = 0) ∨
   (op = 11 ∧ (0 ≤ n ∧ n < p) ∧ r = 0 ∧ a = 0 ∧ b = 0) ∨ (op = 12 ∧ (0 ≤ n ∧ n < p) ∧ r = 0 ∧ b = 0) ∨ (op = 13 ∧ r = 0 ∧ a = 0 ∧ b = 0 ∧ n = 0))
instance (op r a b n p c : Int) : Decidable (InsR op r a b n p c) := by unfold InsR; infer_instance
def insOk (op r a b n p c : Int) : Bool := decide (InsR op r a b n p c)
theorem op_cases (op : Int) : op = 1 ∨ op = 2 ∨ op = 3 ∨ op = 4 ∨ op = 5 ∨ op = 6 ∨ op = 7 ∨ op = 8 ∨ op = 9 ∨ op = 10 ∨ op = 11 ∨ op = 12 ∨ op = 13 ∨ (op < 1 ∨ 13 < op) := by omega
theorem wrap_pred {p : Int} (h0 : -9223372036854775807 ≤ p) (h1 : p ≤ 9223372036854775807) : wrap64 (p - 1) = p - 1 := wrap_in (by omega) (by omega)

theorem spec_InsOk_ev (op r a b n p c : Int) : Ev (fun k => spec_InsOk.f k op r a b n p c) (insOk op r a b n p c) := by
  refine ⟨5, fun k hk => ?_⟩
  obtain ⟨m, rfl⟩ : ∃ m, k = m + 5 := ⟨k - 5, by omega⟩
  by_cases hcc : 0 ≤ c ∧ c ≤ 3
  case neg =>
    have h' : ¬ InsR op r a b n p c := by unfold InsR; omega
    simp only [spec_InsOk.f, spec_InsOk.j0, spec_l1In_eq, Option.bind_some, inn, insOk, decide_eq_false hcc, decide_eq_false h', Bool.not_false, if_true]
    repeat' split
    all_goals rfl
  have hc : -9223372036854775807 ≤ c := by omega
  have hc' : c ≤ 9223372036854775807 := by omega
  simp only [spec_InsOk.f, spec_InsOk.j0, spec_InsOk.j1, spec_InsOk.j2, spec_InsOk.j3, spec_l1In_eq, Option.bind_some, inn, insOk, decide_eq_true_eq, wrap_pred hc hc']
  rcases op_cases op with rfl | rfl | rfl | rfl | rfl | rfl | rfl | rfl | rfl | rfl | rfl | rfl | rfl | h
  case inr.inr.inr.inr.inr.inr.inr.inr.inr.inr.inr.inr.inr =>
    have h' : ¬ InsR op r a b n p c := by unfold InsR; omega
    have h4 : (op == 4) = false := by simpa using (show ¬ op = 4 by omega)
    have h8 : (op == 8) = false := by simpa using (show ¬ op = 8 by omega)
    simp only [if_neg (show ¬ op = 1 by omega), if_neg (show ¬ op = 2 by omega), if_neg (show ¬ op = 3 by omega), if_neg (show ¬ op = 5 by omega), if_neg (show ¬ op = 6 by omega), if_neg (show ¬ op = 7 by omega), if_neg (show ¬ op = 9 by omega), if_neg (show ¬ op = 10 by omega), if_neg (show ¬ op = 11 by omega), if_neg (show ¬ op = 12 by omega), if_neg (show ¬ op = 13 by omega), decide_eq_false h', h4, h8, Bool.false_eq_true, if_false]
    repeat' split
    all_goals rfl
  all_goals
    simp only [InsR]
    simp
    repeat' split
    all_goals first
      | (congr 1; rw [Bool.eq_iff_iff]; simp; omega)
      | (simp; omega)

theorem impl_isReg_eq (a : Int) : impl_isReg.f a = some (inn a 0 3) := by simp [impl_isReg.f, impl_within_eq]
theorem impl_ofChan_eq (a : Int) : impl_ofChan.f a = some (inn a 5 9) := by simp [impl_ofChan.f, impl_within_eq]
theorem impl_InsOk_ev (op r a b n p c : Int) (hp : -9223372036854775807 ≤ p) (hp' : p ≤ 9223372036854775807) : Ev (fun k => impl_InsOk.f k op r a b n p c) (insOk op r a b n p c) := by
  refine ⟨8, fun k hk => ?_⟩
  obtain ⟨m, rfl⟩ : ∃ m, k = m + 8 := ⟨k - 8, by omega⟩
  by_cases hcc : 0 ≤ c ∧ c ≤ 3
  case neg =>
    have h' : ¬ InsR op r a b n p c := by unfold InsR; omega
    simp only [impl_InsOk.f, impl_InsOk.j0, impl_within_eq, Option.bind_some, inn, insOk, decide_eq_false hcc, decide_eq_false h', Bool.false_eq_true, if_false, if_true]
  have hc : -9223372036854775807 ≤ c := by omega
  have hc' : c ≤ 9223372036854775807 := by omega
  simp only [impl_InsOk.f, impl_InsOk.j0, impl_InsOk.j1, impl_InsOk.j2, impl_named.f, impl_named.j0, impl_named.j1, impl_named.j2, impl_named.j3, impl_isReg_eq, impl_ofChan_eq, impl_within_eq, Option.bind_some, inn, insOk, decide_eq_true_eq, wrap_pred hc hc', wrap_pred hp hp']
  rcases op_cases op with rfl | rfl | rfl | rfl | rfl | rfl | rfl | rfl | rfl | rfl | rfl | rfl | rfl | h
  case inr.inr.inr.inr.inr.inr.inr.inr.inr.inr.inr.inr.inr =>
    have h' : ¬ InsR op r a b n p c := by unfold InsR; omega
    simp only [if_neg (show ¬ (1 ≤ op ∧ op ≤ 13) by omega), decide_eq_false h', if_true]
    repeat' split
    all_goals rfl
  all_goals
    simp only [InsR]
    simp
    repeat' split
    all_goals first
      | (congr 1; rw [Bool.eq_iff_iff]; simp; omega)
      | (simp; omega)

/-- A right body, for so many channels. -/
def insIn (p c : Int) (x : S62) : Bool := insOk x.f0 x.f1 x.f2 x.f3 x.f4 p c
def lastOk (l : List S62) : Bool := decide ((l.getD (l.length - 1) z62).f0 = 13 ∨ (l.getD (l.length - 1) z62).f0 = 11)
def bodyOk (l : List S62) (c : Int) : Bool := l.all (insIn (l.length : Int) c) && (inn (l.length : Int) 1 24 && inn c 0 3 && lastOk l)
theorem rd_ins (l : List S62) (j : Nat) (h : j < l.length) : rd_T62 l (j : Int) = l[j] := by simp [rd_T62, List.getD_eq_getElem?_getD, h]
theorem last_ok (l : List S62) : (if (l.getD (l.length - 1) z62).f0 = 13 then some true else some ((l.getD (l.length - 1) z62).f0 == 11)) = some (lastOk l) := by
  unfold lastOk
  generalize (l.getD (l.length - 1) z62).f0 = q
  by_cases h : q = 13
  · rw [if_pos h, decide_eq_true (.inl h)]
  · rw [if_neg h]
    congr 1
    rw [Bool.eq_iff_iff]
    simp [h]
theorem rd_last (l : List S62) (h : 1 ≤ l.length) : rd_T62 l ((l.length : Int) - 1) = l.getD (l.length - 1) z62 := by
  rw [rd_T62, show ((l.length : Int) - 1).toNat = l.length - 1 by omega]

theorem spec_BodyOk_ev (l : List S62) (c : Int) (hl : l.length ≤ 1048576) : Ev (fun k => spec_BodyOk.f k l c) (bodyOk l c) := by
  refine all_loop (L := fun j k => spec_BodyOk.l0 k l c (l.length : Int) (j : Int)) l (insIn (l.length : Int) c) ?_ (fun j hj hp r ih => ?_) (fun j hj hp => ?_)
  · refine Ev.one fun k => ?_
    simp only [spec_BodyOk.l0, spec_l1In_eq, Option.bind_some]
    rw [if_neg (by omega)]
    by_cases h1 : inn (l.length : Int) 1 24 = true
    · have h1' : 1 ≤ (l.length : Int) := by simp only [inn, decide_eq_true_eq] at h1; exact h1.1
      by_cases h2 : inn c 0 3 = true
      · rw [if_pos h1, if_pos h2, wrap_in (by omega) (by omega), if_pos (by omega), if_pos (by omega), rd_last l (by omega), last_ok, h1, h2]
        rfl
      · rw [if_pos h1, if_neg h2, h1, show inn c 0 3 = false by simpa using h2]
        rfl
    · rw [if_neg h1, show inn (l.length : Int) 1 24 = false by simpa using h1]
      rfl
  · refine Ev.step (fun k => by simp only [spec_BodyOk.l0]; rw [if_pos (by omega), if_pos (by omega), if_pos (by omega), rd_ins l j hj]) (Ev.bind (spec_InsOk_ev _ _ _ _ _ _ _) ?_)
    refine Ev.ite_pos hp ?_
    rw [wrapS hj (by omega)]
    exact ih
  · refine Ev.step (fun k => by simp only [spec_BodyOk.l0]; rw [if_pos (by omega), if_pos (by omega), if_pos (by omega), rd_ins l j hj]) (Ev.bind (spec_InsOk_ev _ _ _ _ _ _ _) ?_)
    exact Ev.ite_neg (fun e => by have e' : insIn (l.length : Int) c l[j] = true := e; rw [hp] at e'; cases e') (Ev.now _)

theorem impl_BodyOk_ev (l : List S62) (c : Int) (hl : l.length ≤ 1048576) : Ev (fun k => impl_BodyOk.f k l c) (bodyOk l c) := by
  simp only [impl_BodyOk.f, impl_within_eq, Option.bind_some]
  by_cases h2 : inn c 0 3 = true
  · have h2' : 0 ≤ c ∧ c ≤ 3 := by simpa [inn] using h2
    refine Ev.ite_pos h2 ?_
    by_cases h1 : inn (l.length : Int) 1 24 = true
    · have h1' : 1 ≤ (l.length : Int) := by simp only [inn, decide_eq_true_eq] at h1; exact h1.1
      rw [h1]
      refine Ev.step (fun k => by rw [impl_BodyOk.j0, if_neg (by simp)]) ?_
      refine Ev.val (r := l.all (insIn (l.length : Int) c) && lastOk l) (by unfold bodyOk; rw [h1, h2]; simp) ?_
      refine all_loop (L := fun j k => impl_BodyOk.l0 k l c l (l.length : Int) (j : Int)) l (insIn (l.length : Int) c) ?_ (fun j hj hp r ih => ?_) (fun j hj hp => ?_)
      · refine Ev.one fun k => ?_
        simp only [impl_BodyOk.l0]
        rw [if_neg (by omega), wrap_in (by omega) (by omega), if_pos (by omega), if_pos (by omega), rd_last l (by omega), last_ok]
      · refine Ev.step (fun k => by simp only [impl_BodyOk.l0]; rw [if_pos (by omega), if_pos (by omega), if_pos (by omega), rd_ins l j hj]) (Ev.bind (impl_InsOk_ev _ _ _ _ _ _ _ (by omega) (by omega)) ?_)
        refine Ev.ite_pos hp ?_
        rw [wrapS hj (by omega)]
        exact ih
      · refine Ev.step (fun k => by simp only [impl_BodyOk.l0]; rw [if_pos (by omega), if_pos (by omega), if_pos (by omega), rd_ins l j hj]) (Ev.bind (impl_InsOk_ev _ _ _ _ _ _ _ (by omega) (by omega)) ?_)
        exact Ev.ite_neg (fun e => by have e' : insIn (l.length : Int) c l[j] = true := e; rw [hp] at e'; cases e') (Ev.now _)
    · have h1' : inn (l.length : Int) 1 24 = false := by simpa using h1
      rw [h1']
      refine Ev.one fun k => ?_
      rw [impl_BodyOk.j0, if_pos (by simp), bodyOk, h1']
      simp
  · have h2' : inn c 0 3 = false := by simpa using h2
    refine Ev.ite_neg h2 ?_
    refine Ev.one fun k => ?_
    rw [impl_BodyOk.j0, if_pos rfl, bodyOk, h2']
    simp

theorem impl_copyInts_eq (l : List Int) (h : l.length < 17592186044416) : impl_copyInts.f l = some l := by
  simp [impl_copyInts.f, h]

/-- Where one goes on from a place. -/
def nextAt (x : S62) (a : Int) : List Int :=
  if x.f0 = 13 then [] else if x.f0 = 11 then [x.f4] else if x.f0 = 12 then (if x.f4 < a + 1 then [x.f4, a + 1] else if x.f4 > a + 1 then [a + 1, x.f4] else [a + 1]) else [a + 1]
def placeOk (l : List S62) (a : Int) : Bool := bodyOk l 3 && inn a 0 ((l.length : Int) - 1)
def nextL (l : List S62) (a : Int) : List Int := if placeOk l a = true then nextAt (l.getD a.toNat z62) a else []
theorem compact_two (p q : Int) (h : p ≠ q) : Lib.compact [p, q] = [p, q] := by
  have hr : List.range 2 = [0, 1] := rfl
  simp [Lib.compact, Lib.compactUpTo, hr, Lib.keeps, List.filter, Ne.symm h]
theorem compact_same (p : Int) : Lib.compact [p, p] = [p] := by
  have hr : List.range 2 = [0, 1] := rfl
  simp [Lib.compact, Lib.compactUpTo, hr, Lib.keeps, List.filter]
theorem sorted_le (p q : Int) (h : p ≤ q) : Next.sorted [p, q] = [p, q] := by
  unfold Next.sorted
  exact List.mergeSort_of_pairwise (by simp [h])
theorem sorted_gt (p q : Int) (h : q < p) : Next.sorted [p, q] = [q, p] := by
  unfold Next.sorted
  have h1 : (List.mergeSort [p, q] fun x y => decide (x ≤ y)).Perm [p, q] := List.mergeSort_perm _ _
  have h2 : List.Pairwise (fun x y : Int => decide (x ≤ y) = true) (List.mergeSort [p, q] fun x y => decide (x ≤ y)) := List.pairwise_mergeSort (fun a b c => by simp; omega) (fun a b => by simp; omega) _
  have hl := h1.length_eq
  generalize (List.mergeSort [p, q] fun x y => decide (x ≤ y)) = s at h1 h2 hl
  match s, hl, h1, h2 with
  | [a, b], _, h1, h2 =>
    have ha : a = p ∨ a = q := by simpa using h1.mem_iff (a := a)
    have hp : p = a ∨ p = b := by simpa using (h1.mem_iff (a := p)).mpr (by simp)
    have hq : q = a ∨ q = b := by simpa using (h1.mem_iff (a := q)).mpr (by simp)
    simp at h2
    have hb : b = p := by omega
    have haq : a = q := by omega
    rw [hb, haq]
theorem nx_two (p q : Int) : Next.nx [p, q] = if q < p then [q, p] else if q > p then [p, q] else [p] := by
  unfold Next.nx
  by_cases h : q < p
  · rw [sorted_gt p q h, if_pos h, compact_two q p (by omega)]
  · rw [sorted_le p q (by omega), if_neg h]
    by_cases h2 : q > p
    · rw [if_pos h2, compact_two p q (by omega)]
    · obtain rfl : q = p := by omega
      rw [if_neg h2, compact_same]
theorem place_in {l : List S62} {a : Int} (h : placeOk l a = true) : bodyOk l 3 = true ∧ 0 ≤ a ∧ a < (l.length : Int) ∧ l.length ≤ 24 := by
  unfold placeOk inn at h
  simp only [Bool.and_eq_true, decide_eq_true_eq] at h
  obtain ⟨h1, h2, h3⟩ := h
  have hb := h1
  unfold bodyOk inn at hb
  simp only [Bool.and_eq_true, decide_eq_true_eq] at hb
  exact ⟨h1, h2, by omega, by omega⟩
theorem nextAt_length (x : S62) (a : Int) : (nextAt x a).length ≤ 2 := by
  unfold nextAt
  repeat' split
  all_goals simp
theorem nextL_length (l : List S62) (a : Int) : (nextL l a).length ≤ 2 := by
  unfold nextL
  split
  · exact nextAt_length _ _
  · simp
theorem impl_nextOf_eq (l : List S62) (a : Int) (h0 : 0 ≤ a) (h1 : a < (l.length : Int)) (h2 : l.length ≤ 1048576) : impl_nextOf.f l a = some (nextAt (l.getD a.toNat z62) a) := by
  unfold impl_nextOf.f nextAt rd_T62
  rw [if_pos h0, if_pos h1, wrap_in (n := a + 1) (by omega) (by omega), nx_two]
  repeat' split
  all_goals first | rfl | (exfalso; omega) | omega
theorem impl_placeIn_ev (l : List S62) (a : Int) (hl : l.length ≤ 1048576) : Ev (fun k => impl_placeIn.f k l a) (placeOk l a) := by
  simp only [impl_placeIn.f]
  refine Ev.bind (impl_BodyOk_ev l 3 hl) ?_
  unfold placeOk
  rw [wrap_in (n := (l.length : Int) - 1) (by omega) (by omega)]
  cases bodyOk l 3 with
  | true =>
    refine Ev.ite_pos rfl ?_
    simp only [impl_within_eq, Option.bind_some, Bool.true_and]
    exact Ev.now _
  | false => exact Ev.ite_neg (by simp) (by simp only [Bool.false_and]; exact Ev.now _)
theorem spec_NextOf_j0 (l : List S62) (a : Int) (h : placeOk l a = true) : Ev (fun k => spec_NextOf.j0 k l a false) (nextAt (l.getD a.toNat z62) a) := by
  obtain ⟨_, h0, h1, h2⟩ := place_in h
  refine Ev.one fun k => ?_
  rw [spec_NextOf.j0, if_neg (by simp), if_pos h0, if_pos h1, wrap_in (n := a + 1) (by omega) (by omega)]
  unfold nextAt rd_T62
  repeat' split
  all_goals rfl
theorem spec_NextOf_ev (l : List S62) (a : Int) (hl : l.length ≤ 1048576) : Ev (fun k => spec_NextOf.f k l a) (nextL l a) := by
  simp only [spec_NextOf.f]
  refine Ev.bind (spec_BodyOk_ev l 3 hl) ?_
  rw [wrap_in (n := (l.length : Int) - 1) (by omega) (by omega)]
  have hj : Ev (fun k => spec_NextOf.j0 k l a true) [] := Ev.one fun k => by rw [spec_NextOf.j0, if_pos rfl]
  unfold nextL
  by_cases hb : bodyOk l 3 = true
  · refine Ev.ite_pos hb ?_
    simp only [spec_l1In_eq, Option.bind_some]
    by_cases hi : inn a 0 ((l.length : Int) - 1) = true
    · have h : placeOk l a = true := by unfold placeOk; rw [hb, hi]; rfl
      rw [if_pos h, hi]
      exact spec_NextOf_j0 l a h
    · have h : ¬ placeOk l a = true := by unfold placeOk; rw [hb]; simpa using hi
      rw [if_neg h, Bool.eq_false_iff.mpr hi]
      exact hj
  · have h : ¬ placeOk l a = true := by unfold placeOk; simp [hb]
    rw [if_neg h]
    exact Ev.ite_neg hb hj

theorem next_in {l : List S62} (h : bodyOk l 3 = true) {a : Int} (h0 : 0 ≤ a) (h1 : a < (l.length : Int)) : ∀ z ∈ nextAt (l.getD a.toNat z62) a, 0 ≤ z ∧ z < (l.length : Int) := by
  unfold bodyOk at h
  simp only [Bool.and_eq_true] at h
  obtain ⟨ha, _, hl⟩ := h
  have hj : a.toNat < l.length := by omega
  have hx : l.getD a.toNat z62 = l[a.toNat] := by simp [List.getD_eq_getElem?_getD, hj]
  have hi := List.all_eq_true.mp ha l[a.toNat] (List.getElem_mem hj)
  unfold insIn insOk at hi
  rw [decide_eq_true_eq] at hi
  obtain ⟨_, _, _, _, h5⟩ := hi
  have hlast : (l[a.toNat]).f0 ≠ 13 → (l[a.toNat]).f0 ≠ 11 → a + 1 < (l.length : Int) := by
    intro h13 h11
    rcases Int.lt_or_le (a + 1) (l.length : Int) with hlt | hge
    · exact hlt
    · exfalso
      have he : a.toNat = l.length - 1 := by omega
      unfold lastOk at hl
      rw [decide_eq_true_eq, ← he, hx] at hl
      omega
  rw [hx]
  intro z hz
  unfold nextAt at hz
  by_cases h13 : (l[a.toNat]).f0 = 13
  · rw [if_pos h13] at hz; exact absurd hz (by simp)
  · rw [if_neg h13] at hz
    by_cases h11 : (l[a.toNat]).f0 = 11
    · rw [if_pos h11] at hz
      obtain rfl : z = (l[a.toNat]).f4 := by simpa using hz
      omega
    · rw [if_neg h11] at hz
      have hlt := hlast h13 h11
      by_cases h12 : (l[a.toNat]).f0 = 12
      · rw [if_pos h12] at hz
        have hn : 0 ≤ (l[a.toNat]).f4 ∧ (l[a.toNat]).f4 < (l.length : Int) := by omega
        repeat' split at hz
        all_goals
          simp only [List.mem_cons, List.not_mem_nil, or_false] at hz
          omega
      · rw [if_neg h12] at hz
        obtain rfl : z = a + 1 := by simpa using hz
        omega
/-- How many are not yet seen. -/
def unseen (s : List Bool) : Nat := s.count false
theorem unseen_set (s : List Bool) (i : Nat) (h : i < s.length) (hf : s[i] = false) : unseen (s.set i true) + 1 = unseen s := by
  unfold unseen
  rw [List.count_set h]
  have : 0 < s.count false := List.count_pos_iff.mpr (hf ▸ List.getElem_mem h)
  simp [hf]
  omega
theorem marks_both (l : List S62) (hb : bodyOk l 3 = true) (hl : l.length ≤ 24) : ∀ (m : Nat) (s : List Bool) (t : List Int), s.length = l.length → (∀ z ∈ t, 0 ≤ z ∧ z < (l.length : Int)) → 3 * unseen s + t.length ≤ m → m ≤ 1000000 →
    ∃ r, Ev (fun k => impl_reached.l0 k l s t) r ∧ Ev (fun k => spec_l18Marks.l0 k l s t) r ∧ r.length = l.length := by
  intro m
  induction m with
  | zero =>
    intro s t hs ht hm _
    obtain rfl : t = [] := List.eq_nil_of_length_eq_zero (by omega)
    exact ⟨s, Ev.one fun k => by rw [impl_reached.l0, if_neg (by simp)], Ev.one fun k => by rw [spec_l18Marks.l0, if_neg (by simp)], hs⟩
  | succ m ih =>
    intro s t hs ht hm hM
    cases t with
    | nil => exact ⟨s, Ev.one fun k => by rw [impl_reached.l0, if_neg (by simp)], Ev.one fun k => by rw [spec_l18Marks.l0, if_neg (by simp)], hs⟩
    | cons a t =>
      have ha := ht a List.mem_cons_self
      have htt : ∀ z ∈ t, 0 ≤ z ∧ z < (l.length : Int) := fun z hz => ht z (List.mem_cons_of_mem _ hz)
      have hr : rd (a :: t) 0 = a := by simp [rd, rdOf]
      have hd : (a :: t).drop (1 : Int).toNat = t := rfl
      have hd1 : (a :: t).drop 1 = t := rfl
      have hlen : ((a :: t).length : Int) = (t.length : Int) + 1 := by simp
      rw [List.length_cons] at hm
      have hj : a.toNat < s.length := by omega
      have hrd : rdOf false s a = s[a.toNat] := by simp [rdOf, List.getD_eq_getElem?_getD, hj]
      by_cases hsa : s[a.toNat] = true
      · obtain ⟨r, e1, e2, e3⟩ := ih s t hs htt (by omega) (by omega)
        refine ⟨r, ?_, ?_, e3⟩
        · refine Ev.step (fun k => by rw [impl_reached.l0, if_pos (by omega), if_pos (by omega), if_pos (by omega), hd, Option.bind_some, hr, if_pos ha.1, if_pos (by omega), if_pos (by rw [hrd]; exact hsa)]) e1
        · refine Ev.step (fun k => by rw [spec_l18Marks.l0, if_pos (by omega), if_pos (by omega), Option.bind_some, if_pos (by omega), hd1, Option.bind_some, if_pos (by simp; omega), Option.bind_some, hr, if_pos ha.1, if_pos (by omega), if_pos (by rw [hrd]; exact hsa), List.nil_append]) e2
      · have hf : s[a.toNat] = false := by simpa using hsa
        have hn := next_in hb ha.1 ha.2
        have hn2 := nextAt_length (l.getD a.toNat z62) a
        have hu := unseen_set s a.toNat hj hf
        have hp : placeOk l a = true := by
          unfold placeOk inn
          rw [hb, Bool.true_and, decide_eq_true_eq]
          omega
        obtain ⟨r, e1, e2, e3⟩ := ih (s.set a.toNat true) (t ++ nextAt (l.getD a.toNat z62) a) (by simpa using hs) (by
          intro z hz
          rcases List.mem_append.mp hz with hz | hz
          · exact htt z hz
          · exact hn z hz) (by rw [List.length_append]; omega) (by omega)
        refine ⟨r, ?_, ?_, e3⟩
        · refine Ev.step (fun k => by rw [impl_reached.l0, if_pos (by omega), if_pos (by omega), if_pos (by omega), hd, Option.bind_some, hr, if_pos ha.1, if_pos (by omega), if_neg (by rw [hrd]; exact hsa), impl_nextOf_eq l a ha.1 ha.2 (by omega), Option.bind_some, if_pos (by omega)]) e1
        · refine Ev.step (fun k => by rw [spec_l18Marks.l0, if_pos (by omega), if_pos (by omega), Option.bind_some, if_pos (by omega), hd1, Option.bind_some, if_pos (by simp; omega), Option.bind_some, hr, if_pos ha.1, if_pos (by omega), if_neg (by rw [hrd]; exact hsa)]) ?_
          have e := spec_NextOf_ev l a (by omega)
          unfold nextL at e
          rw [if_pos hp] at e
          refine Ev.bind e ?_
          refine Ev.ite_pos (by rw [List.nil_append]; omega) ?_
          rw [List.nil_append]
          exact e2
theorem reached_both (l : List S62) (hb : bodyOk l 3 = true) (hl : l.length ≤ 24) (t : List Int) (ht : ∀ z ∈ t, 0 ≤ z ∧ z < (l.length : Int)) (hn : t.length ≤ 2) :
    ∃ r, Ev (fun k => impl_reached.f k l t) r ∧ Ev (fun k => spec_l18Marks.f k l t) r ∧ r.length = l.length := by
  have hu : unseen (List.replicate l.length false) ≤ l.length := by
    unfold unseen
    have := List.count_le_length (a := false) (l := List.replicate l.length false)
    rw [List.length_replicate] at this
    exact this
  obtain ⟨r, e1, e2, e3⟩ := marks_both l hb hl 1000 (List.replicate l.length false) t (by simp) ht (by omega) (by omega)
  refine ⟨r, ?_, ?_, e3⟩
  · simp only [impl_reached.f]
    refine Ev.ite_pos (by omega) (Ev.ite_pos (by omega) ?_)
    simp only [impl_copyInts_eq t (by omega), Option.bind_some, Int.toNat_natCast]
    exact e1
  · simp only [spec_l18Marks.f]
    refine Ev.ite_pos (by omega) (Ev.ite_pos (by omega) ?_)
    simp only [Option.bind_some, List.nil_append, Int.toNat_natCast]
    exact Ev.ite_pos (by simp; omega) e2

theorem loops_both (l : List S62) (a : Int) (hl : l.length ≤ 1048576) : ∃ r, Ev (fun k => impl_LoopsAt.f k l a) r ∧ Ev (fun k => spec_LoopsAt.f k l a) r := by
  by_cases h : placeOk l a = true
  · obtain ⟨hb, h0, h1, h2⟩ := place_in h
    obtain ⟨r, e1, e2, e3⟩ := reached_both l hb h2 (nextAt (l.getD a.toNat z62) a) (next_in hb h0 h1) (nextAt_length _ _)
    refine ⟨rdOf false r a, ?_, ?_⟩
    · simp only [impl_LoopsAt.f]
      refine Ev.bind (impl_placeIn_ev l a hl) ?_
      refine Ev.ite_pos h ?_
      simp only [impl_nextOf_eq l a h0 h1 hl, Option.bind_some]
      exact Ev.bind e1 (Ev.ite_pos h0 (Ev.ite_pos (by omega) (Ev.now _)))
    · simp only [spec_LoopsAt.f]
      refine Ev.bind (spec_BodyOk_ev l 3 hl) ?_
      refine Ev.ite_pos hb ?_
      rw [wrap_in (n := (l.length : Int) - 1) (by omega) (by omega)]
      have hi : inn a 0 ((l.length : Int) - 1) = true := by unfold inn; rw [decide_eq_true_eq]; omega
      simp only [spec_l1In_eq, Option.bind_some, hi]
      refine Ev.step (fun k => by rw [spec_LoopsAt.j0]) ?_
      refine Ev.ite_neg (by simp) ?_
      have e := spec_NextOf_ev l a hl
      unfold nextL at e
      rw [if_pos h] at e
      exact Ev.bind e (Ev.bind e2 (Ev.ite_pos h0 (Ev.ite_pos (by omega) (Ev.now _))))
  · refine ⟨false, ?_, ?_⟩
    · simp only [impl_LoopsAt.f]
      refine Ev.bind (impl_placeIn_ev l a hl) ?_
      exact Ev.ite_neg h (Ev.now _)
    · have hj : Ev (fun k => spec_LoopsAt.j0 k l a true) false := Ev.one fun k => by rw [spec_LoopsAt.j0, if_pos rfl]
      simp only [spec_LoopsAt.f]
      refine Ev.bind (spec_BodyOk_ev l 3 hl) ?_
      by_cases hb : bodyOk l 3 = true
      · refine Ev.ite_pos hb ?_
        rw [wrap_in (n := (l.length : Int) - 1) (by omega) (by omega)]
        have hi : inn a 0 ((l.length : Int) - 1) = false := by
          unfold placeOk at h
          rw [hb, Bool.true_and] at h
          simpa using h
        simp only [spec_l1In_eq, Option.bind_some, hi]
        exact hj
      · exact Ev.ite_neg hb hj
theorem FnExactLoopsAt (x0 : (List S64)) (x1 : Int) (ok0 : (x0.length ≤ maxLen ∧ ∀ z ∈ x0, (((Lit.int .i64 z.f0).wf = true) ∧ (((Lit.int .i64 z.f1).wf = true) ∧ (((Lit.int .i64 z.f2).wf = true) ∧ (((Lit.int .i64 z.f3).wf = true) ∧ ((Lit.int .i64 z.f4).wf = true))))))) (ok1 : ((Lit.int .i64 x1).wf = true)) : ∃ k, laws_FnExactLoopsAt.f k x0 x1 = some true := by
  have hl : x0.length ≤ 9223372036854775807 := by have := ok0.1; unfold maxLen at this; omega
  refine Ev.rounds (g := fun k => laws_FnExactLoopsAt.f k x0 x1) ?_
  simp only [laws_FnExactLoopsAt.f]
  refine Ev.bind (szInsS_ev x0 1048576 (by omega) (by omega) hl) ?_
  by_cases h : (x0.length : Int) ≤ 1048576
  case neg => rw [left?_no h]; exact Ev.ite_pos (by omega) (Ev.now _)
  rw [left?_yes h]
  refine Ev.ite_neg (by omega) ?_
  have hm : (x0.map cvIns).length ≤ 1048576 := by simp; omega
  obtain ⟨r, e1, e2⟩ := loops_both (x0.map cvIns) x1 hm
  refine Ev.bind (toInsS_ev x0 (by omega)) ?_
  refine Ev.bind e2 ?_
  refine Ev.bind (toInsS_ev x0 (by omega)) ?_
  refine Ev.bind e1 ?_
  simp only [bne_self_eq_false, Bool.false_eq_true, if_false]
  refine Ev.bind (toInsS_ev x0 (by omega)) ?_
  refine Ev.bind (eqInsS_self _ hm) ?_
  simp only [if_true]
  exact Ev.now _

end Go.Proofs.Ytbonbflbgopjlaa.Pure
