/- The program's NextOf answers what the reference's does, leaves its arguments as they were and hands back memory of its own: the printed law's function is true for all bodies and places. -/
import Derived.Test.YtbonbflbgopjlaaPFnExactNextOfx16
import Derived.Test.YtbonbflbgopjlaaLp
namespace Go.Proofs.Ytbonbflbgopjlaa.Pure
open Go.RowKit Go.Proofs.Ytbonbflbgopjlaa.PFnExactNextOf Go.Proofs.YtbonbflbgopjlaaW.PrintWords Go.Proofs.YtbonbflbgopjlaaW.PrintLast Go.Proofs.Ytbonbflbgopjlaa.Lp
set_option linter.unusedVariables false
set_option linter.unusedSimpArgs false

theorem eqIntS_ev (a b : List Int) (h : a.length ≤ 9223372036854775807) : Ev (fun k => laws_eqIntS.f k a b) (decide (a = b)) := by
  by_cases hl : a.length = b.length
  · have key := count_up (L := fun j k => laws_eqIntS.l0 k a b (j : Int)) (R := fun j => agree a b j) (n := a.length)
      (Ev.one fun k => by simp [laws_eqIntS.l0, agree_end hl])
      (fun j hj ih => by
        by_cases e : a[j] = b[j]
        · exact Ev.step (fun k => by
            simp only [laws_eqIntS.l0]
            rw [if_pos (by omega), if_pos (by omega), if_pos (by omega), if_pos (by rw [rd_get hj, rd_get (by omega), e]), wrapS hj (by omega)]) (by rw [agree_step hj (by omega) e]; exact ih)
        · exact Ev.one fun k => by
            simp only [laws_eqIntS.l0]
            rw [if_pos (by omega), if_pos (by omega), if_pos (by omega), if_neg (by rw [rd_get hj, rd_get (by omega)]; exact e), agree_no hj (by omega) e])
    refine Ev.congr (fun k => ?_) (key 0 (Nat.zero_le _))
    unfold laws_eqIntS.f
    rw [if_pos (by omega)]
    rfl
  · refine Ev.all fun k => ?_
    unfold laws_eqIntS.f
    rw [if_neg (by omega), decide_eq_false (fun e => hl (by rw [e]))]
theorem eqIntS_self (a : List Int) (h : a.length ≤ 9223372036854775807) : Ev (fun k => laws_eqIntS.f k a a) true := by
  have := eqIntS_ev a a h
  simpa using this

def cvIns (x : S64) : S62 := ⟨x.f0, x.f1, x.f2, x.f3, x.f4⟩

theorem szInsS_ev (l : (List S64)) (a : Int) (h0 : 0 ≤ a) (hB : a ≤ 1048576) (hl : l.length ≤ 9223372036854775807) : Ev (fun k => laws_szInsS.f l a) (left? l.length a) := by
  refine Ev.all fun k => ?_
  unfold laws_szInsS.f left?
  rw [wrap_in (by omega) (by omega)]
  by_cases h : (l.length : Int) ≤ a
  · rw [if_neg (by omega), if_pos h]
  · rw [if_pos (by omega), if_neg h]

theorem toIns_ev (a_0 : Int) (a_1 : Int) (a_2 : Int) (a_3 : Int) (a_4 : Int)  : Ev (fun k => laws_toIns.f a_0 a_1 a_2 a_3 a_4) (a_0, a_1, a_2, a_3, a_4) := by
  exact Ev.all fun k => rfl

theorem toInsS_ev (xs : (List S64)) (h : xs.length ≤ 1048576) : Ev (fun k => laws_toInsS.f k xs) (xs.map cvIns) := by
  have rd_e : ∀ (j : Nat) (hj : j < xs.length), rd_T64 xs (j : Int) = xs[j] := fun j hj => by simp [rd_T64, List.getD_eq_getElem?_getD, hj]
  have key := to_loop (L := fun j ys k => laws_toInsS.l0 k xs ys (j : Int)) xs cvIns z62 (fun ys _ => Ev.one fun k => by simp only [laws_toInsS.l0]; rw [if_neg (by omega)])
    (fun j hj ys hy r ih => by
      refine Ev.step (fun k => by simp only [laws_toInsS.l0]; rw [if_pos (by omega), if_pos (by omega), rd_e j hj]) (Ev.bind (toIns_ev (xs[j].f0) (xs[j].f1) (xs[j].f2) (xs[j].f3) (xs[j].f4) ) ?_)
      refine Ev.ite_pos (by omega) ?_
      rw [wrapS hj (by omega), Int.toNat_natCast]
      exact ih)
  refine Ev.congr (fun k => ?_) key
  unfold laws_toInsS.f
  rw [if_pos (by omega), if_pos (by simp; omega)]
  simp only [Int.toNat_natCast]
  rfl

theorem eqIns_self (a_0 : Int) (a_1 : Int) (a_2 : Int) (a_3 : Int) (a_4 : Int)  : Ev (fun k => laws_eqIns.f a_0 a_1 a_2 a_3 a_4 a_0 a_1 a_2 a_3 a_4) true := by
  exact Ev.all fun k => by simp [laws_eqIns.f]

theorem eqInsS_self (xs : (List S62)) (h : xs.length ≤ 1048576) : Ev (fun k => laws_eqInsS.f k xs xs) true := by
  have rd_e : ∀ (j : Nat) (hj : j < xs.length), rd_T62 xs (j : Int) = xs[j] := fun j hj => by simp [rd_T62, List.getD_eq_getElem?_getD, hj]
  have key := yes_loop (L := fun j k => laws_eqInsS.l0 k xs xs (j : Int)) xs.length true (Ev.one fun k => by simp only [laws_eqInsS.l0]; rw [if_neg (by omega)])
    (fun j hj ih => by
      refine Ev.step (fun k => by simp only [laws_eqInsS.l0]; rw [if_pos (by omega), if_pos (by omega), if_pos (by omega), rd_e j hj]) (Ev.bind (eqIns_self (xs[j].f0) (xs[j].f1) (xs[j].f2) (xs[j].f3) (xs[j].f4) ) ?_)
      refine Ev.ite_pos rfl ?_
      rw [wrapS hj (by omega)]
      exact ih)
  refine Ev.congr (fun k => ?_) key
  unfold laws_eqInsS.f
  rw [if_pos rfl]
  rfl

/-- lo .. hi. -/
def inn (a lo hi : Int) : Bool := decide (lo ≤ a ∧ a ≤ hi)

theorem spec_l1In_eq (a lo hi : Int) : spec_l1In.f a lo hi = some (inn a lo hi) := by
  unfold spec_l1In.f inn
  by_cases h : a ≥ lo
  · rw [if_pos h]; congr 1; simp; omega
  · rw [if_neg h, decide_eq_false (by omega)]

theorem impl_within_eq (a lo hi : Int) : impl_within.f a lo hi = some (inn a lo hi) := by
  unfold impl_within.f inn
  by_cases h : a ≥ lo
  · rw [if_pos h]; congr 1; simp; omega
  · rw [if_neg h, decide_eq_false (by omega)]

/-- What a right place is, for so many places and channels. -/
def InsR (op r a b n p c : Int) : Prop :=
  (0 ≤ r ∧ r ≤ 3) ∧ (0 ≤ a ∧ a ≤ 3) ∧ (0 ≤ b ∧ b ≤ 3) ∧ (0 ≤ c ∧ c ≤ 3) ∧
  ((op = 1 ∧ (-1000000000 ≤ n ∧ n ≤ 1000000000) ∧ a = 0 ∧ b = 0) ∨ ((op = 2 ∨ op = 3 ∨ op = 4) ∧ n = 0) ∨ (op = 5 ∧ (0 ≤ n ∧ n < c) ∧ r = 0 ∧ b = 0) ∨
   ((op = 6 ∨ op = 8) ∧ (0 ≤ n ∧ n < c) ∧ a = 0 ∧ r ≠ b) ∨ (op = 7 ∧ (0 ≤ n ∧ n < c) ∧ b = 0) ∨ (op = 9 ∧ (0 ≤ n ∧ n < c) ∧ r = 0 ∧ a = 0 ∧ b = 0) ∨ (op = 10 ∧ r = 0 ∧ b = 0 ∧ n = 0) ∨
   (op = 11 ∧ (0 ≤ n ∧ n < p) ∧ r = 0 ∧ a = 0 ∧ b = 0) ∨ (op = 12 ∧ (0 ≤ n ∧ n < p) ∧ r = 0 ∧ b = 0) ∨ (op = 13 ∧ r = 0 ∧ a = 0 ∧ b = 0 ∧ n = 0))
instance (op r a b n p c : Int) : Decidable (InsR op r a b n p c) := by unfold InsR; infer_instance
def insOk (op r a b n p c : Int) : Bool := decide (InsR op r a b n p c)
theorem op_cases (op : Int) : op = 1 ∨ op = 2 ∨ op = 3 ∨ op = 4 ∨ op = 5 ∨ op = 6 ∨ op = 7 ∨ op = 8 ∨ op = 9 ∨ op = 10 ∨ op = 11 ∨ op = 12 ∨ op = 13 ∨ (op < 1 ∨ 13 < op) := by omega
theorem wrap_pred {p : Int} (h0 : -9223372036854775807 ≤ p) (h1 : p ≤ 9223372036854775807) : wrap64 (p - 1) = p - 1 := wrap_in (by omega) (by omega)

theorem spec_InsOk_ev (op r a b n p c : Int) : Ev (fun k => spec_InsOk.f k op r a b n p c) (insOk op r a b n p c) := by
  refine ⟨5, fun k hk => ?_⟩
  obtain ⟨m, rfl⟩ : ∃ m, k = m + 5 := ⟨k - 5, by omega⟩
  by_cases hcc : 0 ≤ c ∧ c ≤ 3
  case neg =>
    have h' : ¬ InsR op r a b n p c := by unfold InsR; omega
    simp only [spec_InsOk.f, spec_InsOk.j0, spec_l1In_eq, Option.bind_some, inn, insOk, decide_eq_false hcc, decide_eq_false h', Bool.not_false, if_true]
    repeat' split
    all_goals rfl
  have hc : -9223372036854775807 ≤ c := by omega
  have hc' : c ≤ 9223372036854775807 := by omega
  simp only [spec_InsOk.f, spec_InsOk.j0, spec_InsOk.j1, spec_InsOk.j2, spec_InsOk.j3, spec_l1In_eq, Option.bind_some, inn, insOk, decide_eq_true_eq, wrap_pred hc hc']
  rcases op_cases op with rfl | rfl | rfl | rfl | rfl | rfl | rfl | rfl | rfl | rfl | rfl | rfl | rfl | h
  case inr.inr.inr.inr.inr.inr.inr.inr.inr.inr.inr.inr.inr =>
    have h' : ¬ InsR op r a b n p c := by unfold InsR; omega
    have h4 : (op == 4) = false := by simpa using (show ¬ op = 4 by omega)
    have h8 : (op == 8) = false := by simpa using (show ¬ op = 8 by omega)
    simp only [if_neg (show ¬ op = 1 by omega), if_neg (show ¬ op = 2 by omega), if_neg (show ¬ op = 3 by omega), if_neg (show ¬ op = 5 by omega), if_neg (show ¬ op = 6 by omega), if_neg (show ¬ op = 7 by omega), if_neg (show ¬ op = 9 by omega), if_neg (show ¬ op = 10 by omega), if_neg (show ¬ op = 11 by omega), if_neg (show ¬ op = 12 by omega), if_neg (show ¬ op = 13 by omega), decide_eq_false h', h4, h8, Bool.false_eq_true, if_false]
    repeat' split
    all_goals rfl
  all_goals
    simp only [InsR]
    simp
    repeat' split
    all_goals first
      | (congr 1; rw [Bool.eq_iff_iff]; simp; omega)
      | (simp; omega)

theorem impl_isReg_eq (a : Int) : impl_isReg.f a = some (inn a 0 3) := by simp [impl_isReg.f, impl_within_eq]
theorem impl_ofChan_eq (a : Int) : impl_ofChan.f a = some (inn a 5 9) := by simp [impl_ofChan.f, impl_within_eq]
theorem impl_InsOk_ev (op r a b n p c : Int) (hp : -9223372036854775807 ≤ p) (hp' : p ≤ 9223372036854775807) : Ev (fun k => impl_InsOk.f k op r a b n p c) (insOk op r a b n p c) := by
  refine ⟨8, fun k hk => ?_⟩
  obtain ⟨m, rfl⟩ : ∃ m, k = m + 8 := ⟨k - 8, by omega⟩
  by_cases hcc : 0 ≤ c ∧ c ≤ 3
  case neg =>
    have h' : ¬ InsR op r a b n p c := by unfold InsR; omega
    simp only [impl_InsOk.f, impl_InsOk.j0, impl_within_eq, Option.bind_some, inn, insOk, decide_eq_false hcc, decide_eq_false h', Bool.false_eq_true, if_false, if_true]
  have hc : -9223372036854775807 ≤ c := by omega
  have hc' : c ≤ 9223372036854775807 := by omega
  simp only [impl_InsOk.f, impl_InsOk.j0, impl_InsOk.j1, impl_InsOk.j2, impl_named.f, impl_named.j0, impl_named.j1, impl_named.j2, impl_named.j3, impl_isReg_eq, impl_ofChan_eq, impl_within_eq, Option.bind_some, inn, insOk, decide_eq_true_eq, wrap_pred hc hc', wrap_pred hp hp']
  rcases op_cases op with rfl | rfl | rfl | rfl | rfl | rfl | rfl | rfl | rfl | rfl | rfl | rfl | rfl | h
  case inr.inr.inr.inr.inr.inr.inr.inr.inr.inr.inr.inr.inr =>
    have h' : ¬ InsR op r a b n p c := by unfold InsR; omega
    simp only [if_neg (show ¬ (1 ≤ op ∧ op ≤ 13) by omega), decide_eq_false h', if_true]
    repeat' split
    all_goals rfl
  all_goals
    simp only [InsR]
    simp
    repeat' split
    all_goals first
      | (congr 1; rw [Bool.eq_iff_iff]; simp; omega)
      | (simp; omega)

/-- A right body, for so many channels. -/
def insIn (p c : Int) (x : S62) : Bool := insOk x.f0 x.f1 x.f2 x.f3 x.f4 p c
def lastOk (l : List S62) : Bool := decide ((l.getD (l.length - 1) z62).f0 = 13 ∨ (l.getD (l.length - 1) z62).f0 = 11)
def bodyOk (l : List S62) (c : Int) : Bool := l.all (insIn (l.length : Int) c) && (inn (l.length : Int) 1 24 && inn c 0 3 && lastOk l)
theorem rd_ins (l : List S62) (j : Nat) (h : j < l.length) : rd_T62 l (j : Int) = l[j] := by simp [rd_T62, List.getD_eq_getElem?_getD, h]
theorem last_ok (l : List S62) : (if (l.getD (l.length - 1) z62).f0 = 13 then some true else some ((l.getD (l.length - 1) z62).f0 == 11)) = some (lastOk l) := by
  unfold lastOk
  generalize (l.getD (l.length - 1) z62).f0 = q
  by_cases h : q = 13
  · rw [if_pos h, decide_eq_true (.inl h)]
  · rw [if_neg h]
    congr 1
    rw [Bool.eq_iff_iff]
    simp [h]
theorem rd_last (l : List S62) (h : 1 ≤ l.length) : rd_T62 l ((l.length : Int) - 1) = l.getD (l.length - 1) z62 := by
  rw [rd_T62, show ((l.length : Int) - 1).toNat = l.length - 1 by omega]

theorem spec_BodyOk_ev (l : List S62) (c : Int) (hl : l.length ≤ 1048576) : Ev (fun k => spec_BodyOk.f k l c) (bodyOk l c) := by
  refine all_loop (L := fun j k => spec_BodyOk.l0 k l c (l.length : Int) (j : Int)) l (insIn (l.length : Int) c) ?_ (fun j hj hp r ih => ?_) (fun j hj hp => ?_)
  · refine Ev.one fun k => ?_
    simp only [spec_BodyOk.l0, spec_l1In_eq, Option.bind_some]
    rw [if_neg (by omega)]
    by_cases h1 : inn (l.length : Int) 1 24 = true
    · have h1' : 1 ≤ (l.length : Int) := by simp only [inn, decide_eq_true_eq] at h1; exact h1.1
      by_cases h2 : inn c 0 3 = true
      · rw [if_pos h1, if_pos h2, wrap_in (by omega) (by omega), if_pos (by omega), if_pos (by omega), rd_last l (by omega), last_ok, h1, h2]
        rfl
      · rw [if_pos h1, if_neg h2, h1, show inn c 0 3 = false by simpa using h2]
        rfl
    · rw [if_neg h1, show inn (l.length : Int) 1 24 = false by simpa using h1]
      rfl
  · refine Ev.step (fun k => by simp only [spec_BodyOk.l0]; rw [if_pos (by omega), if_pos (by omega), if_pos (by omega), rd_ins l j hj]) (Ev.bind (spec_InsOk_ev _ _ _ _ _ _ _) ?_)
    refine Ev.ite_pos hp ?_
    rw [wrapS hj (by omega)]
    exact ih
  · refine Ev.step (fun k => by simp only [spec_BodyOk.l0]; rw [if_pos (by omega), if_pos (by omega), if_pos (by omega), rd_ins l j hj]) (Ev.bind (spec_InsOk_ev _ _ _ _ _ _ _) ?_)
    exact Ev.ite_neg (fun e => by have e' : insIn (l.length : Int) c l[j] = true := e; rw [hp] at e'; cases e') (Ev.now _)

theorem impl_BodyOk_ev (l : List S62) (c : Int) (hl : l.length ≤ 1048576) : Ev (fun k => impl_BodyOk.f k l c) (bodyOk l c) := by
  simp only [impl_BodyOk.f, impl_within_eq, Option.bind_some]
  by_cases h2 : inn c 0 3 = true
  · have h2' : 0 ≤ c ∧ c ≤ 3 := by simpa [inn] using h2
    refine Ev.ite_pos h2 ?_
    by_cases h1 : inn (l.length : Int) 1 24 = true
    · have h1' : 1 ≤ (l.length : Int) := by simp only [inn, decide_eq_true_eq] at h1; exact h1.1
      rw [h1]
      refine Ev.step (fun k => by rw [impl_BodyOk.j0, if_neg (by simp)]) ?_
      refine Ev.val (r := l.all (insIn (l.length : Int) c) && lastOk l) (by unfold bodyOk; rw [h1, h2]; simp) ?_
      refine all_loop (L := fun j k => impl_BodyOk.l0 k l c l (l.length : Int) (j : Int)) l (insIn (l.length : Int) c) ?_ (fun j hj hp r ih => ?_) (fun j hj hp => ?_)
      · refine Ev.one fun k => ?_
        simp only [impl_BodyOk.l0]
        rw [if_neg (by omega), wrap_in (by omega) (by omega), if_pos (by omega), if_pos (by omega), rd_last l (by omega), last_ok]
      · refine Ev.step (fun k => by simp only [impl_BodyOk.l0]; rw [if_pos (by omega), if_pos (by omega), if_pos (by omega), rd_ins l j hj]) (Ev.bind (impl_InsOk_ev _ _ _ _ _ _ _ (by omega) (by omega)) ?_)
        refine Ev.ite_pos hp ?_
        rw [wrapS hj (by omega)]
        exact ih
      · refine Ev.step (fun k => by simp only [impl_BodyOk.l0]; rw [if_pos (by omega), if_pos (by omega), if_pos (by omega), rd_ins l j hj]) (Ev.bind (impl_InsOk_ev _ _ _ _ _ _ _ (by omega) (by omega)) ?_)
        exact Ev.ite_neg (fun e => by have e' : insIn (l.length : Int) c l[j] = true := e; rw [hp] at e'; cases e') (Ev.now _)
    · have h1' : inn (l.length : Int) 1 24 = false := by simpa using h1
      rw [h1']
      refine Ev.one fun k => ?_
      rw [impl_BodyOk.j0, if_pos (by simp), bodyOk, h1']
      simp
  · have h2' : inn c 0 3 = false := by simpa using h2
    refine Ev.ite_neg h2 ?_
    refine Ev.one fun k => ?_
    rw [impl_BodyOk.j0, if_pos rfl, bodyOk, h2']
    simp

theorem markIntS_ev (l : List Int) (a : Int) (h0 : 0 ≤ a) (h : a + l.length ≤ 4611686018427387904) : Ev (fun k => laws_markIntS.f k l a) (a + (l.length : Int), iota a l.length) := by
  have key := count_up (L := fun j k => laws_markIntS.l0 k (iota a j ++ l.drop j) (a + (j : Int)) (j : Int)) (R := fun _ => (a + (l.length : Int), iota a l.length)) (n := l.length)
    (Ev.one fun k => by simp [laws_markIntS.l0, iota_length])
    (fun j hj ih => Ev.step (fun k => by
      simp only [laws_markIntS.l0]
      rw [if_pos (by simp [iota_length]; omega), if_pos (by omega), wrapS hj (by omega), Int.toNat_natCast, mark_set l a j hj, wrap_in (by omega) (by omega), show a + (j : Int) + 1 = a + ((j + 1 : Nat) : Int) by omega]) ih)
  refine Ev.congr (fun k => ?_) (key 0 (Nat.zero_le _))
  unfold laws_markIntS.f
  simp [iota]

theorem heldIntS_ev (n : Nat) (a : Int) (h0 : 0 ≤ a) (h : a + n ≤ 4611686018427387904) : Ev (fun k => laws_heldIntS.f k (iota a n) a) (a + (n : Int)) := by
  have key := count_up (L := fun j k => laws_heldIntS.l0 k (iota a n) (a + (j : Int)) (j : Int)) (R := fun _ => a + (n : Int)) (n := n)
    (Ev.one fun k => by simp [laws_heldIntS.l0, iota_length])
    (fun j hj ih => Ev.step (fun k => by
      simp only [laws_heldIntS.l0]
      rw [if_pos (by rw [iota_length]; omega), if_pos (by omega), if_pos (by rw [rd_get (by rw [iota_length]; exact hj), iota_get]), wrapS hj (by omega), wrap_in (by omega) (by omega), show a + (j : Int) + 1 = a + ((j + 1 : Nat) : Int) by omega]) ih)
  refine Ev.congr (fun k => ?_) (key 0 (Nat.zero_le _))
  unfold laws_heldIntS.f
  simp

/-- With enough fuel it answers, and the answer is so. -/
def DE {α : Type} (g : Nat → Option α) (P : α → Prop) : Prop := ∃ r, Ev g r ∧ P r
theorem DE.bind {α β : Type} {g : Nat → Option α} {f : α → Nat → Option β} {P : α → Prop} {Q : β → Prop} (h : DE g P) (k : ∀ x, P x → DE (f x) Q) : DE (fun n => (g n).bind fun x => f x n) Q := by
  obtain ⟨r, e, p⟩ := h
  obtain ⟨r', e', q⟩ := k r p
  exact ⟨r', Ev.bind e e', q⟩
theorem DE.now {α : Type} {r : α} {Q : α → Prop} (h : Q r) : DE (fun _ => some r) Q := ⟨r, Ev.now _, h⟩
theorem DE.ite {α : Type} {c : Prop} [Decidable c] {g f : Nat → Option α} {Q : α → Prop} (h : c → DE g Q) (k : ¬ c → DE f Q) : DE (fun n => if c then g n else f n) Q := by
  by_cases e : c
  · simp only [if_pos e]; exact h e
  · simp only [if_neg e]; exact k e
theorem DE.pos {α : Type} {c : Prop} [Decidable c] {g f : Nat → Option α} {Q : α → Prop} (e : c) (h : DE g Q) : DE (fun n => if c then g n else f n) Q := by simp only [if_pos e]; exact h
theorem DE.neg {α : Type} {c : Prop} [Decidable c] {g f : Nat → Option α} {Q : α → Prop} (e : ¬ c) (h : DE f Q) : DE (fun n => if c then g n else f n) Q := by simp only [if_neg e]; exact h
theorem DE.step {α : Type} {g f : Nat → Option α} {Q : α → Prop} (e : ∀ k, g (k + 1) = f k) (h : DE f Q) : DE g Q := by
  obtain ⟨r, e', q⟩ := h
  exact ⟨r, Ev.step e e', q⟩
theorem DE.congr {α : Type} {g f : Nat → Option α} {Q : α → Prop} (e : ∀ k, g k = f k) (h : DE f Q) : DE g Q := by
  obtain ⟨r, e', q⟩ := h
  exact ⟨r, Ev.congr e e', q⟩
theorem DE.weak {α : Type} {g : Nat → Option α} {P Q : α → Prop} (e : ∀ x, P x → Q x) (h : DE g P) : DE g Q := by
  obtain ⟨r, e', q⟩ := h
  exact ⟨r, e', e r q⟩
theorem DE.ev {α : Type} {g : Nat → Option α} {r : α} {Q : α → Prop} (e : Ev g r) (h : Q r) : DE g Q := ⟨r, e, h⟩

/-- Where one goes on from a place. -/
def nextAt (x : S62) (a : Int) : List Int :=
  if x.f0 = 13 then [] else if x.f0 = 11 then [x.f4] else if x.f0 = 12 then (if x.f4 < a + 1 then [x.f4, a + 1] else if x.f4 > a + 1 then [a + 1, x.f4] else [a + 1]) else [a + 1]
def placeOk (l : List S62) (a : Int) : Bool := bodyOk l 3 && inn a 0 ((l.length : Int) - 1)
def nextL (l : List S62) (a : Int) : List Int := if placeOk l a = true then nextAt (l.getD a.toNat z62) a else []
theorem compact_two (p q : Int) (h : p ≠ q) : Lib.compact [p, q] = [p, q] := by
  have hr : List.range 2 = [0, 1] := rfl
  simp [Lib.compact, Lib.compactUpTo, hr, Lib.keeps, List.filter, Ne.symm h]
theorem compact_same (p : Int) : Lib.compact [p, p] = [p] := by
  have hr : List.range 2 = [0, 1] := rfl
  simp [Lib.compact, Lib.compactUpTo, hr, Lib.keeps, List.filter]
theorem sorted_le (p q : Int) (h : p ≤ q) : Next.sorted [p, q] = [p, q] := by
  unfold Next.sorted
  exact List.mergeSort_of_pairwise (by simp [h])
theorem sorted_gt (p q : Int) (h : q < p) : Next.sorted [p, q] = [q, p] := by
  unfold Next.sorted
  have h1 : (List.mergeSort [p, q] fun x y => decide (x ≤ y)).Perm [p, q] := List.mergeSort_perm _ _
  have h2 : List.Pairwise (fun x y : Int => decide (x ≤ y) = true) (List.mergeSort [p, q] fun x y => decide (x ≤ y)) := List.pairwise_mergeSort (fun a b c => by simp; omega) (fun a b => by simp; omega) _
  have hl := h1.length_eq
  generalize (List.mergeSort [p, q] fun x y => decide (x ≤ y)) = s at h1 h2 hl
  match s, hl, h1, h2 with
  | [a, b], _, h1, h2 =>
    have ha : a = p ∨ a = q := by simpa using h1.mem_iff (a := a)
    have hp : p = a ∨ p = b := by simpa using (h1.mem_iff (a := p)).mpr (by simp)
    have hq : q = a ∨ q = b := by simpa using (h1.mem_iff (a := q)).mpr (by simp)
    simp at h2
    have hb : b = p := by omega
    have haq : a = q := by omega
    rw [hb, haq]
theorem nx_two (p q : Int) : Next.nx [p, q] = if q < p then [q, p] else if q > p then [p, q] else [p] := by
  unfold Next.nx
  by_cases h : q < p
  · rw [sorted_gt p q h, if_pos h, compact_two q p (by omega)]
  · rw [sorted_le p q (by omega), if_neg h]
    by_cases h2 : q > p
    · rw [if_pos h2, compact_two p q (by omega)]
    · obtain rfl : q = p := by omega
      rw [if_neg h2, compact_same]
theorem place_in {l : List S62} {a : Int} (h : placeOk l a = true) : bodyOk l 3 = true ∧ 0 ≤ a ∧ a < (l.length : Int) ∧ l.length ≤ 24 := by
  unfold placeOk inn at h
  simp only [Bool.and_eq_true, decide_eq_true_eq] at h
  obtain ⟨h1, h2, h3⟩ := h
  have hb := h1
  unfold bodyOk inn at hb
  simp only [Bool.and_eq_true, decide_eq_true_eq] at hb
  exact ⟨h1, h2, by omega, by omega⟩
theorem nextAt_length (x : S62) (a : Int) : (nextAt x a).length ≤ 2 := by
  unfold nextAt
  repeat' split
  all_goals simp
theorem nextL_length (l : List S62) (a : Int) : (nextL l a).length ≤ 2 := by
  unfold nextL
  split
  · exact nextAt_length _ _
  · simp
theorem impl_nextOf_eq (l : List S62) (a : Int) (h0 : 0 ≤ a) (h1 : a < (l.length : Int)) (h2 : l.length ≤ 1048576) : impl_nextOf.f l a = some (nextAt (l.getD a.toNat z62) a) := by
  unfold impl_nextOf.f nextAt rd_T62
  rw [if_pos h0, if_pos h1, wrap_in (n := a + 1) (by omega) (by omega), nx_two]
  repeat' split
  all_goals first | rfl | (exfalso; omega) | omega
theorem impl_placeIn_ev (l : List S62) (a : Int) (hl : l.length ≤ 1048576) : Ev (fun k => impl_placeIn.f k l a) (placeOk l a) := by
  simp only [impl_placeIn.f]
  refine Ev.bind (impl_BodyOk_ev l 3 hl) ?_
  unfold placeOk
  rw [wrap_in (n := (l.length : Int) - 1) (by omega) (by omega)]
  cases bodyOk l 3 with
  | true =>
    refine Ev.ite_pos rfl ?_
    simp only [impl_within_eq, Option.bind_some, Bool.true_and]
    exact Ev.now _
  | false => exact Ev.ite_neg (by simp) (by simp only [Bool.false_and]; exact Ev.now _)
theorem impl_NextOf_ev (l : List S62) (a : Int) (hl : l.length ≤ 1048576) : Ev (fun k => impl_NextOf.f k l a) (nextL l a) := by
  simp only [impl_NextOf.f]
  refine Ev.bind (impl_placeIn_ev l a hl) ?_
  unfold nextL
  by_cases h : placeOk l a = true
  · obtain ⟨_, h0, h1, h2⟩ := place_in h
    refine Ev.ite_pos h ?_
    rw [if_pos h]
    simp only [impl_nextOf_eq l a h0 h1 hl, Option.bind_some]
    exact Ev.now _
  · refine Ev.ite_neg h ?_
    rw [if_neg h]
    exact Ev.now _
theorem spec_NextOf_j0 (l : List S62) (a : Int) (h : placeOk l a = true) : Ev (fun k => spec_NextOf.j0 k l a false) (nextAt (l.getD a.toNat z62) a) := by
  obtain ⟨_, h0, h1, h2⟩ := place_in h
  refine Ev.one fun k => ?_
  rw [spec_NextOf.j0, if_neg (by simp), if_pos h0, if_pos h1, wrap_in (n := a + 1) (by omega) (by omega)]
  unfold nextAt rd_T62
  repeat' split
  all_goals rfl
theorem spec_NextOf_ev (l : List S62) (a : Int) (hl : l.length ≤ 1048576) : Ev (fun k => spec_NextOf.f k l a) (nextL l a) := by
  simp only [spec_NextOf.f]
  refine Ev.bind (spec_BodyOk_ev l 3 hl) ?_
  rw [wrap_in (n := (l.length : Int) - 1) (by omega) (by omega)]
  have hj : Ev (fun k => spec_NextOf.j0 k l a true) [] := Ev.one fun k => by rw [spec_NextOf.j0, if_pos rfl]
  unfold nextL
  by_cases hb : bodyOk l 3 = true
  · refine Ev.ite_pos hb ?_
    simp only [spec_l1In_eq, Option.bind_some]
    by_cases hi : inn a 0 ((l.length : Int) - 1) = true
    · have h : placeOk l a = true := by unfold placeOk; rw [hb, hi]; rfl
      rw [if_pos h, hi]
      exact spec_NextOf_j0 l a h
    · have h : ¬ placeOk l a = true := by unfold placeOk; rw [hb]; simpa using hi
      rw [if_neg h, Bool.eq_false_iff.mpr hi]
      exact hj
  · have h : ¬ placeOk l a = true := by unfold placeOk; simp [hb]
    rw [if_neg h]
    exact Ev.ite_neg hb hj

theorem markInsS_l0 (n : Nat) : ∀ d (j : Nat) (l : List S62) (a : Int), l.length = n → n ≤ 1048576 → j + d = n → 0 ≤ a → a + 5 * d ≤ 1000000000 → DE (fun k => laws_markInsS.l0 k l a (j : Int)) (fun r => 0 ≤ r.1) := by
  intro d
  induction d with
  | zero =>
    intro j l a hl hn hj h0 hs
    exact DE.step (f := fun _ => some (a, l)) (fun k => by rw [laws_markInsS.l0, if_neg (by omega)]) (DE.now h0)
  | succ d ih =>
    intro j l a hl hn hj h0 hs
    have e1 : wrap64 (a + 1) = a + 1 := wrap_in (by omega) (by omega)
    have e2 : wrap64 (a + 1 + 1) = a + 1 + 1 := wrap_in (by omega) (by omega)
    have e3 : wrap64 (a + 1 + 1 + 1) = a + 1 + 1 + 1 := wrap_in (by omega) (by omega)
    have e4 : wrap64 (a + 1 + 1 + 1 + 1) = a + 1 + 1 + 1 + 1 := wrap_in (by omega) (by omega)
    have e5 : wrap64 (a + 1 + 1 + 1 + 1 + 1) = a + 1 + 1 + 1 + 1 + 1 := wrap_in (by omega) (by omega)
    refine DE.step (fun k => by rw [laws_markInsS.l0, if_pos (by omega), if_pos (by omega)]) ?_
    simp only [Option.bind_some, e1, e2, e3, e4, e5, wrapS (show j < n by omega) (by omega)]
    exact ih (j + 1) _ _ (by simp [hl]) hn (by omega) (by omega) (by omega)
theorem markInsS_de (l : List S62) (a : Int) (hl : l.length ≤ 1048576) (h0 : 0 ≤ a) (h : a ≤ 1000000) : DE (fun k => laws_markInsS.f k l a) (fun r => 0 ≤ r.1) := by
  simp only [laws_markInsS.f]
  exact markInsS_l0 l.length l.length 0 l a rfl hl (by omega) h0 (by omega)

theorem FnExactNextOf (x0 : (List S64)) (x1 : Int) (ok0 : (x0.length ≤ maxLen ∧ ∀ z ∈ x0, (((Lit.int .i64 z.f0).wf = true) ∧ (((Lit.int .i64 z.f1).wf = true) ∧ (((Lit.int .i64 z.f2).wf = true) ∧ (((Lit.int .i64 z.f3).wf = true) ∧ ((Lit.int .i64 z.f4).wf = true))))))) (ok1 : ((Lit.int .i64 x1).wf = true)) : ∃ k, laws_FnExactNextOf.f k x0 x1 = some true := by
  have hl : x0.length ≤ 9223372036854775807 := by have := ok0.1; unfold maxLen at this; omega
  refine Ev.rounds (g := fun k => laws_FnExactNextOf.f k x0 x1) ?_
  simp only [laws_FnExactNextOf.f]
  refine Ev.bind (szInsS_ev x0 1048576 (by omega) (by omega) hl) ?_
  by_cases h : (x0.length : Int) ≤ 1048576
  case neg => rw [left?_no h]; exact Ev.ite_pos (by omega) (Ev.now _)
  rw [left?_yes h]
  refine Ev.ite_neg (by omega) ?_
  have hm : (x0.map cvIns).length ≤ 1048576 := by simp; omega
  have hn := nextL_length (x0.map cvIns) x1
  refine Ev.bind (toInsS_ev x0 (by omega)) ?_
  refine Ev.bind (spec_NextOf_ev _ x1 hm) ?_
  refine Ev.bind (toInsS_ev x0 (by omega)) ?_
  refine Ev.bind (impl_NextOf_ev _ x1 hm) ?_
  refine Ev.bind (eqIntS_self _ (by omega)) ?_
  simp only [if_true]
  refine Ev.bind (toInsS_ev x0 (by omega)) ?_
  refine Ev.bind (eqInsS_self _ hm) ?_
  simp only [if_true]
  obtain ⟨q, hq, hq0⟩ := markInsS_de (x0.map cvIns) 1 hm (by omega) (by omega)
  refine Ev.bind hq ?_
  refine Ev.ite_neg (by omega) ?_
  refine Ev.bind (eqIntS_self _ (by omega)) ?_
  refine Ev.step (fun k => by rw [laws_FnExactNextOf.j0]) ?_
  refine Ev.ite_neg (by simp) ?_
  refine Ev.bind (markIntS_ev _ _ (by omega) (by omega)) ?_
  refine Ev.bind (heldIntS_ev _ _ (by omega) (by omega)) ?_
  simp only [if_neg (show ¬ (1 + ((nextL (x0.map cvIns) x1).length : Int) < 0) by omega), if_true]
  refine Ev.bind (toInsS_ev x0 (by omega)) ?_
  refine Ev.bind (impl_NextOf_ev _ x1 hm) ?_
  refine Ev.bind (eqIntS_self _ (by omega)) ?_
  simp only [if_true]
  refine Ev.bind (heldIntS_ev _ _ (by omega) (by omega)) ?_
  simp only [if_neg (show ¬ (1 + ((nextL (x0.map cvIns) x1).length : Int) < 0) by omega), if_true]
  exact Ev.now _

end Go.Proofs.Ytbonbflbgopjlaa.Pure
