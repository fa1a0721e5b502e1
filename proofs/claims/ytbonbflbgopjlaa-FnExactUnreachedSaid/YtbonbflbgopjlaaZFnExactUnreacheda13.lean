/- A part of the proof that the law FnExactUnreached holds for every input: the words, functions and walks that its row needs, without a condition of their own. -/
import Derived.ProofKit
import Derived.DataElems
import Derived.ChangeArms
import Derived.SizedLaws
import Derived.Test.YtbonbflbgopjlaaZFnExactUnreacheda1
import Derived.Test.YtbonbflbgopjlaaZFnExactUnreacheda12
namespace Go.Proofs.Ytbonbflbgopjlaa.Lp
open Go.RowKit Go.Proofs.YtbonbflbgopjlaaW.PrintWords
set_option linter.unusedVariables false
set_option linter.unusedSimpArgs false
theorem wrapS {j n : Nat} (h : j < n) (hn : n ≤ 9223372036854775807) : wrap64 ((j : Int) + 1) = ((j + 1 : Nat) : Int) := by
  unfold wrap64; omega
theorem wrap_in {n : Int} (h0 : -9223372036854775808 ≤ n) (h1 : n ≤ 9223372036854775807) : wrap64 n = n := by
  unfold wrap64; omega
theorem rd_get {xs : List Int} {j : Nat} (h : j < xs.length) : rd xs (j : Int) = xs[j] := by simp [rd, List.getD_eq_getElem?_getD, h]
theorem count_up {ρ : Type} {L : Nat → Nat → Option ρ} {R : Nat → ρ} {n : Nat} (hend : Ev (L n) (R n)) (hstep : ∀ j, j < n → Ev (L (j + 1)) (R (j + 1)) → Ev (L j) (R j)) : ∀ j, j ≤ n → Ev (L j) (R j) := by
  have key : ∀ d j, j + d = n → Ev (L j) (R j) := by
    intro d
    induction d with
    | zero => intro j hj; obtain rfl : j = n := by omega
              exact hend
    | succ d ih => intro j hj; exact hstep j (by omega) (ih (j + 1) (by omega))
  exact fun j hj => key (n - j) j (by omega)
theorem Ev.one {α : Type} {g : Nat → Option α} {r : α} (h : ∀ k, g (k + 1) = some r) : Ev g r := ⟨1, fun k hk => by
  obtain ⟨m, rfl⟩ : ∃ m, k = m + 1 := ⟨k - 1, by omega⟩
  exact h m⟩
theorem Ev.all {α : Type} {g : Nat → Option α} {r : α} (h : ∀ k, g k = some r) : Ev g r := ⟨0, fun k _ => h k⟩
theorem fill_set {α : Type} (l : List α) (z : α) (j : Nat) (h : j < l.length) (x : α) (hx : x = l[j]) : (l.take j ++ List.replicate (l.length - j) z).set j x = l.take (j + 1) ++ List.replicate (l.length - (j + 1)) z := by
  subst hx
  rw [show l.length - j = (l.length - (j + 1)) + 1 by omega, List.replicate_succ, List.set_append_right _ _ (by simp; omega), List.length_take, show j - min j l.length = 0 by omega, List.set_cons_zero, List.take_succ_eq_append_getElem h, List.append_assoc]
  rfl
def agree {α : Type} [DecidableEq α] (a b : List α) (j : Nat) : Bool := decide (a.drop j = b.drop j)
theorem agree_step {α : Type} [DecidableEq α] {a b : List α} {j : Nat} (ha : j < a.length) (hb : j < b.length) (h : a[j] = b[j]) : agree a b j = agree a b (j + 1) := by
  unfold agree
  have e1 := List.drop_eq_getElem_cons ha
  have e2 := List.drop_eq_getElem_cons hb
  rw [decide_eq_decide, e1, e2, h, List.cons.injEq]
  exact ⟨fun c => c.2, fun c => ⟨rfl, c⟩⟩
theorem agree_no {α : Type} [DecidableEq α] {a b : List α} {j : Nat} (ha : j < a.length) (hb : j < b.length) (h : ¬ a[j] = b[j]) : agree a b j = false := by
  unfold agree
  have e1 := List.drop_eq_getElem_cons ha
  have e2 := List.drop_eq_getElem_cons hb
  rw [decide_eq_false_iff_not, e1, e2]
  intro c
  injection c with c1
  exact h c1
theorem agree_end {α : Type} [DecidableEq α] {a b : List α} (h : a.length = b.length) : agree a b a.length = true := by
  unfold agree
  simp [h]
def iota (a : Int) (n : Nat) : List Int := (List.range n).map fun (i : Nat) => a + (i : Int)
theorem iota_length (a : Int) (n : Nat) : (iota a n).length = n := by simp [iota]
theorem iota_get {a : Int} {n j : Nat} (h : j < (iota a n).length) : (iota a n)[j] = a + (j : Int) := by simp [iota]
theorem iota_succ (a : Int) (n : Nat) : iota a (n + 1) = iota a n ++ [a + (n : Int)] := by simp [iota, List.range_succ]
theorem mark_set (l : List Int) (a : Int) (j : Nat) (h : j < l.length) : (iota a j ++ l.drop j).set j (a + (j : Int)) = iota a (j + 1) ++ l.drop (j + 1) := by
  rw [List.set_append_right _ _ (by simp [iota_length]), iota_length, Nat.sub_self, List.drop_eq_getElem_cons h, List.set_cons_zero, iota_succ, List.append_assoc]
  rfl
def allFrom {α : Type} (p : α → Bool) (xs : List α) (j : Nat) : Bool := (xs.drop j).all p
theorem allFrom_step {α : Type} {p : α → Bool} {xs : List α} {j : Nat} (h : j < xs.length) : allFrom p xs j = (p xs[j] && allFrom p xs (j + 1)) := by
  unfold allFrom
  rw [List.drop_eq_getElem_cons h, List.all_cons]
theorem allFrom_end {α : Type} {p : α → Bool} (xs : List α) : allFrom p xs xs.length = true := by simp [allFrom]
theorem allFrom_zero {α : Type} (p : α → Bool) (xs : List α) : allFrom p xs 0 = xs.all p := rfl
def left? (t : Nat) (a : Int) : Int := if (t : Int) ≤ a then a - (t : Int) else -1
theorem left?_yes {t : Nat} {a : Int} (h : (t : Int) ≤ a) : left? t a = a - (t : Int) := if_pos h
theorem left?_no {t : Nat} {a : Int} (h : ¬ (t : Int) ≤ a) : left? t a = -1 := if_neg h
theorem Ev.val {α : Type} {g : Nat → Option α} {r r' : α} (h : r = r') (k : Ev g r) : Ev g r' := h ▸ k
theorem Ev.ite_pos {α : Type} {c : Prop} [Decidable c] {g f : Nat → Option α} {r : α} (h : c) (k : Ev g r) : Ev (fun n => if c then g n else f n) r := by simp only [if_pos h]; exact k
theorem Ev.ite_neg {α : Type} {c : Prop} [Decidable c] {g f : Nat → Option α} {r : α} (h : ¬ c) (k : Ev f r) : Ev (fun n => if c then g n else f n) r := by simp only [if_neg h]; exact k
theorem to_loop {α β : Type} {L : Nat → List β → Nat → Option (List β)} (xs : List α) (c : α → β) (z : β) (hend : ∀ ys, ys.length = xs.length → Ev (L xs.length ys) ys)
    (hstep : ∀ j (h : j < xs.length) ys, ys.length = xs.length → ∀ r, Ev (L (j + 1) (ys.set j (c xs[j]))) r → Ev (L j ys) r) : Ev (L 0 (List.replicate xs.length z)) (xs.map c) := by
  have key : ∀ d j, j + d = xs.length → Ev (L j ((xs.map c).take j ++ List.replicate (xs.length - j) z)) (xs.map c) := by
    intro d
    induction d with
    | zero =>
      intro j hj
      obtain rfl : j = xs.length := by omega
      have := hend (xs.map c) (by simp)
      rw [Nat.sub_self, List.replicate_zero, List.append_nil, List.take_of_length_le (by simp)]
      exact this
    | succ d ih =>
      intro j hj
      have h : j < xs.length := by omega
      refine hstep j h _ (by simp; omega) _ ?_
      have h2 := fill_set (xs.map c) z j (by simpa using h) (c xs[j]) (by simp)
      rw [List.length_map] at h2
      rw [h2]
      exact ih (j + 1) (by omega)
  simpa using key xs.length 0 (by omega)
theorem yes_loop {ρ : Type} {L : Nat → Nat → Option ρ} (n : Nat) (r : ρ) (hend : Ev (L n) r) (hstep : ∀ j, j < n → Ev (L (j + 1)) r → Ev (L j) r) : Ev (L 0) r :=
  count_up (R := fun _ => r) hend hstep 0 (Nat.zero_le _)
theorem all_loop {α : Type} {L : Nat → Nat → Option Bool} (xs : List α) (p : α → Bool) {b : Bool} (hend : Ev (L xs.length) b) (hyes : ∀ j (h : j < xs.length), p xs[j] = true → ∀ r, Ev (L (j + 1)) r → Ev (L j) r) (hno : ∀ j (h : j < xs.length), p xs[j] = false → Ev (L j) false) : Ev (L 0) (xs.all p && b) := by
  have key : ∀ d j, j + d = xs.length → Ev (L j) (allFrom p xs j && b) := by
    intro d
    induction d with
    | zero =>
      intro j hj
      obtain rfl : j = xs.length := by omega
      rw [allFrom_end, Bool.true_and]
      exact hend
    | succ d ih =>
      intro j hj
      have h : j < xs.length := by omega
      rw [allFrom_step h]
      cases e : p xs[j] with
      | true => rw [Bool.true_and]; exact hyes j h e _ (ih (j + 1) (by omega))
      | false => rw [Bool.false_and, Bool.false_and]; exact hno j h e
  have := key xs.length 0 (by omega)
  rwa [allFrom_zero] at this
end Go.Proofs.Ytbonbflbgopjlaa.Lp
namespace Go.Proofs.Ytbonbflbgopjlaa.Pure
open Go.RowKit Go.Proofs.Ytbonbflbgopjlaa.PFnExactUnreached Go.Proofs.YtbonbflbgopjlaaW.PrintWords Go.Proofs.YtbonbflbgopjlaaW.PrintLast Go.Proofs.Ytbonbflbgopjlaa.Lp
set_option linter.unusedVariables false
set_option linter.unusedSimpArgs false
theorem eqIntS_ev (a b : List Int) (h : a.length ≤ 9223372036854775807) : Ev (fun k => laws_eqIntS.f k a b) (decide (a = b)) := by
  by_cases hl : a.length = b.length
  · have key := count_up (L := fun j k => laws_eqIntS.l0 k a b (j : Int)) (R := fun j => agree a b j) (n := a.length)
      (Ev.one fun k => by simp [laws_eqIntS.l0, agree_end hl])
      (fun j hj ih => by
        by_cases e : a[j] = b[j]
        · exact Ev.step (fun k => by
            simp only [laws_eqIntS.l0]
            rw [if_pos (by omega), if_pos (by omega), if_pos (by omega), if_pos (by rw [rd_get hj, rd_get (by omega), e]), wrapS hj (by omega)]) (by rw [agree_step hj (by omega) e]; exact ih)
        · exact Ev.one fun k => by
            simp only [laws_eqIntS.l0]
            rw [if_pos (by omega), if_pos (by omega), if_pos (by omega), if_neg (by rw [rd_get hj, rd_get (by omega)]; exact e), agree_no hj (by omega) e])
    refine Ev.congr (fun k => ?_) (key 0 (Nat.zero_le _))
    unfold laws_eqIntS.f
    rw [if_pos (by omega)]
    rfl
  · refine Ev.all fun k => ?_
    unfold laws_eqIntS.f
    rw [if_neg (by omega), decide_eq_false (fun e => hl (by rw [e]))]
theorem eqIntS_self (a : List Int) (h : a.length ≤ 9223372036854775807) : Ev (fun k => laws_eqIntS.f k a a) true := by
  have := eqIntS_ev a a h
  simpa using this
def cvIns (x : S64) : S62 := ⟨x.f0, x.f1, x.f2, x.f3, x.f4⟩
theorem szInsS_ev (l : (List S64)) (a : Int) (h0 : 0 ≤ a) (hB : a ≤ 1048576) (hl : l.length ≤ 9223372036854775807) : Ev (fun k => laws_szInsS.f l a) (left? l.length a) := by
  refine Ev.all fun k => ?_
  unfold laws_szInsS.f left?
  rw [wrap_in (by omega) (by omega)]
  by_cases h : (l.length : Int) ≤ a
  · rw [if_neg (by omega), if_pos h]
  · rw [if_pos (by omega), if_neg h]
theorem toIns_ev (a_0 : Int) (a_1 : Int) (a_2 : Int) (a_3 : Int) (a_4 : Int)  : Ev (fun k => laws_toIns.f a_0 a_1 a_2 a_3 a_4) (a_0, a_1, a_2, a_3, a_4) := by
  exact Ev.all fun k => rfl
theorem toInsS_ev (xs : (List S64)) (h : xs.length ≤ 1048576) : Ev (fun k => laws_toInsS.f k xs) (xs.map cvIns) := by
  have rd_e : ∀ (j : Nat) (hj : j < xs.length), rd_T64 xs (j : Int) = xs[j] := fun j hj => by simp [rd_T64, List.getD_eq_getElem?_getD, hj]
  have key := to_loop (L := fun j ys k => laws_toInsS.l0 k xs ys (j : Int)) xs cvIns z62 (fun ys _ => Ev.one fun k => by simp only [laws_toInsS.l0]; rw [if_neg (by omega)])
    (fun j hj ys hy r ih => by
      refine Ev.step (fun k => by simp only [laws_toInsS.l0]; rw [if_pos (by omega), if_pos (by omega), rd_e j hj]) (Ev.bind (toIns_ev (xs[j].f0) (xs[j].f1) (xs[j].f2) (xs[j].f3) (xs[j].f4) ) ?_)
      refine Ev.ite_pos (by omega) ?_
      rw [wrapS hj (by omega), Int.toNat_natCast]
      exact ih)
  refine Ev.congr (fun k => ?_) key
  unfold laws_toInsS.f
  rw [if_pos (by omega), if_pos (by simp; omega)]
  simp only [Int.toNat_natCast]
  rfl
theorem eqIns_self (a_0 : Int) (a_1 : Int) (a_2 : Int) (a_3 : Int) (a_4 : Int)  : Ev (fun k => laws_eqIns.f a_0 a_1 a_2 a_3 a_4 a_0 a_1 a_2 a_3 a_4) true := by
  exact Ev.all fun k => by simp [laws_eqIns.f]
theorem eqInsS_self (xs : (List S62)) (h : xs.length ≤ 1048576) : Ev (fun k => laws_eqInsS.f k xs xs) true := by
  have rd_e : ∀ (j : Nat) (hj : j < xs.length), rd_T62 xs (j : Int) = xs[j] := fun j hj => by simp [rd_T62, List.getD_eq_getElem?_getD, hj]
  have key := yes_loop (L := fun j k => laws_eqInsS.l0 k xs xs (j : Int)) xs.length true (Ev.one fun k => by simp only [laws_eqInsS.l0]; rw [if_neg (by omega)])
    (fun j hj ih => by
      refine Ev.step (fun k => by simp only [laws_eqInsS.l0]; rw [if_pos (by omega), if_pos (by omega), if_pos (by omega), rd_e j hj]) (Ev.bind (eqIns_self (xs[j].f0) (xs[j].f1) (xs[j].f2) (xs[j].f3) (xs[j].f4) ) ?_)
      refine Ev.ite_pos rfl ?_
      rw [wrapS hj (by omega)]
      exact ih)
  refine Ev.congr (fun k => ?_) key
  unfold laws_eqInsS.f
  rw [if_pos rfl]
  rfl
def inn (a lo hi : Int) : Bool := decide (lo ≤ a ∧ a ≤ hi)
theorem spec_l1In_eq (a lo hi : Int) : spec_l1In.f a lo hi = some (inn a lo hi) := by
  unfold spec_l1In.f inn
  by_cases h : a ≥ lo
  · rw [if_pos h]; congr 1; simp; omega
  · rw [if_neg h, decide_eq_false (by omega)]
theorem impl_within_eq (a lo hi : Int) : impl_within.f a lo hi = some (inn a lo hi) := by
  unfold impl_within.f inn
  by_cases h : a ≥ lo
  · rw [if_pos h]; congr 1; simp; omega
  · rw [if_neg h, decide_eq_false (by omega)]
def InsR (op r a b n p c : Int) : Prop :=
  (0 ≤ r ∧ r ≤ 3) ∧ (0 ≤ a ∧ a ≤ 3) ∧ (0 ≤ b ∧ b ≤ 3) ∧ (0 ≤ c ∧ c ≤ 3) ∧
  ((op = 1 ∧ (-1000000000 ≤ n ∧ n ≤ 1000000000) ∧ a = 0 ∧ b = 0) ∨ ((op = 2 ∨ op = 3 ∨ op = 4) ∧ n = 0) ∨ (op = 5 ∧ (0 ≤ n ∧ n < c) ∧ r = 0 ∧ b = 0) ∨
   ((op = 6 ∨ op = 8) ∧ (0 ≤ n ∧ n < c) ∧ a = 0 ∧ r ≠ b) ∨ (op = 7 ∧ (0 ≤ n ∧ n < c) ∧ b = 0) ∨ (op = 9 ∧ (0 ≤ n ∧ n < c) ∧ r = 0 ∧ a = 0 ∧ b = 0) ∨ (op = 10 ∧ r = 0 ∧ b = 0 ∧ n = 0) ∨
   (op = 11 ∧ (0 ≤ n ∧ n < p) ∧ r = 0 ∧ a = 0 ∧ b = 0) ∨ (op = 12 ∧ (0 ≤ n ∧ n < p) ∧ r = 0 ∧ b = 0) ∨ (op = 13 ∧ r = 0 ∧ a = 0 ∧ b = 0 ∧ n = 0))
instance (op r a b n p c : Int) : Decidable (InsR op r a b n p c) := by unfold InsR; infer_instance
def insOk (op r a b n p c : Int) : Bool := decide (InsR op r a b n p c)
theorem op_cases (op : Int) : op = 1 ∨ op = 2 ∨ op = 3 ∨ op = 4 ∨ op = 5 ∨ op = 6 ∨ op = 7 ∨ op = 8 ∨ op = 9 ∨ op = 10 ∨ op = 11 ∨ op = 12 ∨ op = 13 ∨ (op < 1 ∨ 13 < op) := by omega
theorem wrap_pred {p : Int} (h0 : -9223372036854775807 ≤ p) (h1 : p ≤ 9223372036854775807) : wrap64 (p - 1) = p - 1 := wrap_in (by omega) (by omega)
theorem spec_InsOk_ev (op r a b n p c : Int) : Ev (fun k => spec_InsOk.f k op r a b n p c) (insOk op r a b n p c) := by
  refine ⟨5, fun k hk => ?_⟩
  obtain ⟨m, rfl⟩ : ∃ m, k = m + 5 := ⟨k - 5, by omega⟩
  by_cases hcc : 0 ≤ c ∧ c ≤ 3
  case neg =>
    have h' : ¬ InsR op r a b n p c := by unfold InsR; omega
    simp only [spec_InsOk.f, spec_InsOk.j0, spec_l1In_eq, Option.bind_some, inn, insOk, decide_eq_false hcc, decide_eq_false h', Bool.not_false, if_true]
    repeat' split
    all_goals rfl
  have hc : -9223372036854775807 ≤ c := by omega
  have hc' : c ≤ 9223372036854775807 := by omega
  simp only [spec_InsOk.f, spec_InsOk.j0, spec_InsOk.j1, spec_InsOk.j2, spec_InsOk.j3, spec_l1In_eq, Option.bind_some, inn, insOk, decide_eq_true_eq, wrap_pred hc hc']
  rcases op_cases op with rfl | rfl | rfl | rfl | rfl | rfl | rfl | rfl | rfl | rfl | rfl | rfl | rfl | h
  case inr.inr.inr.inr.inr.inr.inr.inr.inr.inr.inr.inr.inr =>
    have h' : ¬ InsR op r a b n p c := by unfold InsR; omega
    have h4 : (op == 4) = false := by simpa using (show ¬ op = 4 by omega)
    have h8 : (op == 8) = false := by simpa using (show ¬ op = 8 by omega)
    simp only [if_neg (show ¬ op = 1 by omega), if_neg (show ¬ op = 2 by omega), if_neg (show ¬ op = 3 by omega), if_neg (show ¬ op = 5 by omega), if_neg (show ¬ op = 6 by omega), if_neg (show ¬ op = 7 by omega), if_neg (show ¬ op = 9 by omega), if_neg (show ¬ op = 10 by omega), if_neg (show ¬ op = 11 by omega), if_neg (show ¬ op = 12 by omega), if_neg (show ¬ op = 13 by omega), decide_eq_false h', h4, h8, Bool.false_eq_true, if_false]
    repeat' split
    all_goals rfl
  all_goals
    simp only [InsR]
    simp
    repeat' split
    all_goals first
      | (congr 1; rw [Bool.eq_iff_iff]; simp; omega)
      | (simp; omega)
theorem impl_isReg_eq (a : Int) : impl_isReg.f a = some (inn a 0 3) := by simp [impl_isReg.f, impl_within_eq]
theorem impl_ofChan_eq (a : Int) : impl_ofChan.f a = some (inn a 5 9) := by simp [impl_ofChan.f, impl_within_eq]
theorem impl_InsOk_ev (op r a b n p c : Int) (hp : -9223372036854775807 ≤ p) (hp' : p ≤ 9223372036854775807) : Ev (fun k => impl_InsOk.f k op r a b n p c) (insOk op r a b n p c) := by
  refine ⟨8, fun k hk => ?_⟩
  obtain ⟨m, rfl⟩ : ∃ m, k = m + 8 := ⟨k - 8, by omega⟩
  by_cases hcc : 0 ≤ c ∧ c ≤ 3
  case neg =>
    have h' : ¬ InsR op r a b n p c := by unfold InsR; omega
    simp only [impl_InsOk.f, impl_InsOk.j0, impl_within_eq, Option.bind_some, inn, insOk, decide_eq_false hcc, decide_eq_false h', Bool.false_eq_true, if_false, if_true]
  have hc : -9223372036854775807 ≤ c := by omega
  have hc' : c ≤ 9223372036854775807 := by omega
  simp only [impl_InsOk.f, impl_InsOk.j0, impl_InsOk.j1, impl_InsOk.j2, impl_named.f, impl_named.j0, impl_named.j1, impl_named.j2, impl_named.j3, impl_isReg_eq, impl_ofChan_eq, impl_within_eq, Option.bind_some, inn, insOk, decide_eq_true_eq, wrap_pred hc hc', wrap_pred hp hp']
  rcases op_cases op with rfl | rfl | rfl | rfl | rfl | rfl | rfl | rfl | rfl | rfl | rfl | rfl | rfl | h
  case inr.inr.inr.inr.inr.inr.inr.inr.inr.inr.inr.inr.inr =>
    have h' : ¬ InsR op r a b n p c := by unfold InsR; omega
    simp only [if_neg (show ¬ (1 ≤ op ∧ op ≤ 13) by omega), decide_eq_false h', if_true]
    repeat' split
    all_goals rfl
  all_goals
    simp only [InsR]
    simp
    repeat' split
    all_goals first
      | (congr 1; rw [Bool.eq_iff_iff]; simp; omega)
      | (simp; omega)
def insIn (p c : Int) (x : S62) : Bool := insOk x.f0 x.f1 x.f2 x.f3 x.f4 p c
def lastOk (l : List S62) : Bool := decide ((l.getD (l.length - 1) z62).f0 = 13 ∨ (l.getD (l.length - 1) z62).f0 = 11)
def bodyOk (l : List S62) (c : Int) : Bool := l.all (insIn (l.length : Int) c) && (inn (l.length : Int) 1 24 && inn c 0 3 && lastOk l)
theorem rd_ins (l : List S62) (j : Nat) (h : j < l.length) : rd_T62 l (j : Int) = l[j] := by simp [rd_T62, List.getD_eq_getElem?_getD, h]
theorem last_ok (l : List S62) : (if (l.getD (l.length - 1) z62).f0 = 13 then some true else some ((l.getD (l.length - 1) z62).f0 == 11)) = some (lastOk l) := by
  unfold lastOk
  generalize (l.getD (l.length - 1) z62).f0 = q
  by_cases h : q = 13
  · rw [if_pos h, decide_eq_true (.inl h)]
  · rw [if_neg h]
    congr 1
    rw [Bool.eq_iff_iff]
    simp [h]
theorem rd_last (l : List S62) (h : 1 ≤ l.length) : rd_T62 l ((l.length : Int) - 1) = l.getD (l.length - 1) z62 := by
  rw [rd_T62, show ((l.length : Int) - 1).toNat = l.length - 1 by omega]
theorem spec_BodyOk_ev (l : List S62) (c : Int) (hl : l.length ≤ 1048576) : Ev (fun k => spec_BodyOk.f k l c) (bodyOk l c) := by
  refine all_loop (L := fun j k => spec_BodyOk.l0 k l c (l.length : Int) (j : Int)) l (insIn (l.length : Int) c) ?_ (fun j hj hp r ih => ?_) (fun j hj hp => ?_)
  · refine Ev.one fun k => ?_
    simp only [spec_BodyOk.l0, spec_l1In_eq, Option.bind_some]
    rw [if_neg (by omega)]
    by_cases h1 : inn (l.length : Int) 1 24 = true
    · have h1' : 1 ≤ (l.length : Int) := by simp only [inn, decide_eq_true_eq] at h1; exact h1.1
      by_cases h2 : inn c 0 3 = true
      · rw [if_pos h1, if_pos h2, wrap_in (by omega) (by omega), if_pos (by omega), if_pos (by omega), rd_last l (by omega), last_ok, h1, h2]
        rfl
      · rw [if_pos h1, if_neg h2, h1, show inn c 0 3 = false by simpa using h2]
        rfl
    · rw [if_neg h1, show inn (l.length : Int) 1 24 = false by simpa using h1]
      rfl
  · refine Ev.step (fun k => by simp only [spec_BodyOk.l0]; rw [if_pos (by omega), if_pos (by omega), if_pos (by omega), rd_ins l j hj]) (Ev.bind (spec_InsOk_ev _ _ _ _ _ _ _) ?_)
    refine Ev.ite_pos hp ?_
    rw [wrapS hj (by omega)]
    exact ih
  · refine Ev.step (fun k => by simp only [spec_BodyOk.l0]; rw [if_pos (by omega), if_pos (by omega), if_pos (by omega), rd_ins l j hj]) (Ev.bind (spec_InsOk_ev _ _ _ _ _ _ _) ?_)
    exact Ev.ite_neg (fun e => by have e' : insIn (l.length : Int) c l[j] = true := e; rw [hp] at e'; cases e') (Ev.now _)
theorem impl_BodyOk_ev (l : List S62) (c : Int) (hl : l.length ≤ 1048576) : Ev (fun k => impl_BodyOk.f k l c) (bodyOk l c) := by
  simp only [impl_BodyOk.f, impl_within_eq, Option.bind_some]
  by_cases h2 : inn c 0 3 = true
  · have h2' : 0 ≤ c ∧ c ≤ 3 := by simpa [inn] using h2
    refine Ev.ite_pos h2 ?_
    by_cases h1 : inn (l.length : Int) 1 24 = true
    · have h1' : 1 ≤ (l.length : Int) := by simp only [inn, decide_eq_true_eq] at h1; exact h1.1
      rw [h1]
      refine Ev.step (fun k => by rw [impl_BodyOk.j0, if_neg (by simp)]) ?_
      refine Ev.val (r := l.all (insIn (l.length : Int) c) && lastOk l) (by unfold bodyOk; rw [h1, h2]; simp) ?_
      refine all_loop (L := fun j k => impl_BodyOk.l0 k l c l (l.length : Int) (j : Int)) l (insIn (l.length : Int) c) ?_ (fun j hj hp r ih => ?_) (fun j hj hp => ?_)
      · refine Ev.one fun k => ?_
        simp only [impl_BodyOk.l0]
        rw [if_neg (by omega), wrap_in (by omega) (by omega), if_pos (by omega), if_pos (by omega), rd_last l (by omega), last_ok]
      · refine Ev.step (fun k => by simp only [impl_BodyOk.l0]; rw [if_pos (by omega), if_pos (by omega), if_pos (by omega), rd_ins l j hj]) (Ev.bind (impl_InsOk_ev _ _ _ _ _ _ _ (by omega) (by omega)) ?_)
        refine Ev.ite_pos hp ?_
        rw [wrapS hj (by omega)]
        exact ih
      · refine Ev.step (fun k => by simp only [impl_BodyOk.l0]; rw [if_pos (by omega), if_pos (by omega), if_pos (by omega), rd_ins l j hj]) (Ev.bind (impl_InsOk_ev _ _ _ _ _ _ _ (by omega) (by omega)) ?_)
        exact Ev.ite_neg (fun e => by have e' : insIn (l.length : Int) c l[j] = true := e; rw [hp] at e'; cases e') (Ev.now _)
    · have h1' : inn (l.length : Int) 1 24 = false := by simpa using h1
      rw [h1']
      refine Ev.one fun k => ?_
      rw [impl_BodyOk.j0, if_pos (by simp), bodyOk, h1']
      simp
  · have h2' : inn c 0 3 = false := by simpa using h2
    refine Ev.ite_neg h2 ?_
    refine Ev.one fun k => ?_
    rw [impl_BodyOk.j0, if_pos rfl, bodyOk, h2']
    simp
theorem markIntS_ev (l : List Int) (a : Int) (h0 : 0 ≤ a) (h : a + l.length ≤ 4611686018427387904) : Ev (fun k => laws_markIntS.f k l a) (a + (l.length : Int), iota a l.length) := by
  have key := count_up (L := fun j k => laws_markIntS.l0 k (iota a j ++ l.drop j) (a + (j : Int)) (j : Int)) (R := fun _ => (a + (l.length : Int), iota a l.length)) (n := l.length)
    (Ev.one fun k => by simp [laws_markIntS.l0, iota_length])
    (fun j hj ih => Ev.step (fun k => by
      simp only [laws_markIntS.l0]
      rw [if_pos (by simp [iota_length]; omega), if_pos (by omega), wrapS hj (by omega), Int.toNat_natCast, mark_set l a j hj, wrap_in (by omega) (by omega), show a + (j : Int) + 1 = a + ((j + 1 : Nat) : Int) by omega]) ih)
  refine Ev.congr (fun k => ?_) (key 0 (Nat.zero_le _))
  unfold laws_markIntS.f
  simp [iota]
theorem heldIntS_ev (n : Nat) (a : Int) (h0 : 0 ≤ a) (h : a + n ≤ 4611686018427387904) : Ev (fun k => laws_heldIntS.f k (iota a n) a) (a + (n : Int)) := by
  have key := count_up (L := fun j k => laws_heldIntS.l0 k (iota a n) (a + (j : Int)) (j : Int)) (R := fun _ => a + (n : Int)) (n := n)
    (Ev.one fun k => by simp [laws_heldIntS.l0, iota_length])
    (fun j hj ih => Ev.step (fun k => by
      simp only [laws_heldIntS.l0]
      rw [if_pos (by rw [iota_length]; omega), if_pos (by omega), if_pos (by rw [rd_get (by rw [iota_length]; exact hj), iota_get]), wrapS hj (by omega), wrap_in (by omega) (by omega), show a + (j : Int) + 1 = a + ((j + 1 : Nat) : Int) by omega]) ih)
  refine Ev.congr (fun k => ?_) (key 0 (Nat.zero_le _))
  unfold laws_heldIntS.f
  simp
theorem impl_copyInts_eq (l : List Int) (h : l.length < 17592186044416) : impl_copyInts.f l = some l := by
  simp [impl_copyInts.f, h]
def DE {α : Type} (g : Nat → Option α) (P : α → Prop) : Prop := ∃ r, Ev g r ∧ P r
theorem DE.bind {α β : Type} {g : Nat → Option α} {f : α → Nat → Option β} {P : α → Prop} {Q : β → Prop} (h : DE g P) (k : ∀ x, P x → DE (f x) Q) : DE (fun n => (g n).bind fun x => f x n) Q := by
  obtain ⟨r, e, p⟩ := h
  obtain ⟨r', e', q⟩ := k r p
  exact ⟨r', Ev.bind e e', q⟩
theorem DE.now {α : Type} {r : α} {Q : α → Prop} (h : Q r) : DE (fun _ => some r) Q := ⟨r, Ev.now _, h⟩
theorem DE.neg {α : Type} {c : Prop} [Decidable c] {g f : Nat → Option α} {Q : α → Prop} (e : ¬ c) (h : DE f Q) : DE (fun n => if c then g n else f n) Q := by simp only [if_neg e]; exact h
theorem DE.step {α : Type} {g f : Nat → Option α} {Q : α → Prop} (e : ∀ k, g (k + 1) = f k) (h : DE f Q) : DE g Q := by
  obtain ⟨r, e', q⟩ := h
  exact ⟨r, Ev.step e e', q⟩
theorem DE.congr {α : Type} {g f : Nat → Option α} {Q : α → Prop} (e : ∀ k, g k = f k) (h : DE f Q) : DE g Q := by
  obtain ⟨r, e', q⟩ := h
  exact ⟨r, Ev.congr e e', q⟩
def nextAt (x : S62) (a : Int) : List Int :=
  if x.f0 = 13 then [] else if x.f0 = 11 then [x.f4] else if x.f0 = 12 then (if x.f4 < a + 1 then [x.f4, a + 1] else if x.f4 > a + 1 then [a + 1, x.f4] else [a + 1]) else [a + 1]
def placeOk (l : List S62) (a : Int) : Bool := bodyOk l 3 && inn a 0 ((l.length : Int) - 1)
def nextL (l : List S62) (a : Int) : List Int := if placeOk l a = true then nextAt (l.getD a.toNat z62) a else []
theorem compact_two (p q : Int) (h : p ≠ q) : Lib.compact [p, q] = [p, q] := by
  have hr : List.range 2 = [0, 1] := rfl
  simp [Lib.compact, Lib.compactUpTo, hr, Lib.keeps, List.filter, Ne.symm h]
theorem compact_same (p : Int) : Lib.compact [p, p] = [p] := by
  have hr : List.range 2 = [0, 1] := rfl
  simp [Lib.compact, Lib.compactUpTo, hr, Lib.keeps, List.filter]
theorem sorted_le (p q : Int) (h : p ≤ q) : Next.sorted [p, q] = [p, q] := by
  unfold Next.sorted
  exact List.mergeSort_of_pairwise (by simp [h])
theorem sorted_gt (p q : Int) (h : q < p) : Next.sorted [p, q] = [q, p] := by
  unfold Next.sorted
  have h1 : (List.mergeSort [p, q] fun x y => decide (x ≤ y)).Perm [p, q] := List.mergeSort_perm _ _
  have h2 : List.Pairwise (fun x y : Int => decide (x ≤ y) = true) (List.mergeSort [p, q] fun x y => decide (x ≤ y)) := List.pairwise_mergeSort (fun a b c => by simp; omega) (fun a b => by simp; omega) _
  have hl := h1.length_eq
  generalize (List.mergeSort [p, q] fun x y => decide (x ≤ y)) = s at h1 h2 hl
  match s, hl, h1, h2 with
  | [a, b], _, h1, h2 =>
    have ha : a = p ∨ a = q := by simpa using h1.mem_iff (a := a)
    have hp : p = a ∨ p = b := by simpa using (h1.mem_iff (a := p)).mpr (by simp)
    have hq : q = a ∨ q = b := by simpa using (h1.mem_iff (a := q)).mpr (by simp)
    simp at h2
    have hb : b = p := by omega
    have haq : a = q := by omega
    rw [hb, haq]
theorem nx_two (p q : Int) : Next.nx [p, q] = if q < p then [q, p] else if q > p then [p, q] else [p] := by
  unfold Next.nx
  by_cases h : q < p
  · rw [sorted_gt p q h, if_pos h, compact_two q p (by omega)]
  · rw [sorted_le p q (by omega), if_neg h]
    by_cases h2 : q > p
    · rw [if_pos h2, compact_two p q (by omega)]
    · obtain rfl : q = p := by omega
      rw [if_neg h2, compact_same]
theorem place_in {l : List S62} {a : Int} (h : placeOk l a = true) : bodyOk l 3 = true ∧ 0 ≤ a ∧ a < (l.length : Int) ∧ l.length ≤ 24 := by
  unfold placeOk inn at h
  simp only [Bool.and_eq_true, decide_eq_true_eq] at h
  obtain ⟨h1, h2, h3⟩ := h
  have hb := h1
  unfold bodyOk inn at hb
  simp only [Bool.and_eq_true, decide_eq_true_eq] at hb
  exact ⟨h1, h2, by omega, by omega⟩
theorem nextAt_length (x : S62) (a : Int) : (nextAt x a).length ≤ 2 := by
  unfold nextAt
  repeat' split
  all_goals simp
theorem impl_nextOf_eq (l : List S62) (a : Int) (h0 : 0 ≤ a) (h1 : a < (l.length : Int)) (h2 : l.length ≤ 1048576) : impl_nextOf.f l a = some (nextAt (l.getD a.toNat z62) a) := by
  unfold impl_nextOf.f nextAt rd_T62
  rw [if_pos h0, if_pos h1, wrap_in (n := a + 1) (by omega) (by omega), nx_two]
  repeat' split
  all_goals first | rfl | (exfalso; omega) | omega
theorem spec_NextOf_j0 (l : List S62) (a : Int) (h : placeOk l a = true) : Ev (fun k => spec_NextOf.j0 k l a false) (nextAt (l.getD a.toNat z62) a) := by
  obtain ⟨_, h0, h1, h2⟩ := place_in h
  refine Ev.one fun k => ?_
  rw [spec_NextOf.j0, if_neg (by simp), if_pos h0, if_pos h1, wrap_in (n := a + 1) (by omega) (by omega)]
  unfold nextAt rd_T62
  repeat' split
  all_goals rfl
theorem spec_NextOf_ev (l : List S62) (a : Int) (hl : l.length ≤ 1048576) : Ev (fun k => spec_NextOf.f k l a) (nextL l a) := by
  simp only [spec_NextOf.f]
  refine Ev.bind (spec_BodyOk_ev l 3 hl) ?_
  rw [wrap_in (n := (l.length : Int) - 1) (by omega) (by omega)]
  have hj : Ev (fun k => spec_NextOf.j0 k l a true) [] := Ev.one fun k => by rw [spec_NextOf.j0, if_pos rfl]
  unfold nextL
  by_cases hb : bodyOk l 3 = true
  · refine Ev.ite_pos hb ?_
    simp only [spec_l1In_eq, Option.bind_some]
    by_cases hi : inn a 0 ((l.length : Int) - 1) = true
    · have h : placeOk l a = true := by unfold placeOk; rw [hb, hi]; rfl
      rw [if_pos h, hi]
      exact spec_NextOf_j0 l a h
    · have h : ¬ placeOk l a = true := by unfold placeOk; rw [hb]; simpa using hi
      rw [if_neg h, Bool.eq_false_iff.mpr hi]
      exact hj
  · have h : ¬ placeOk l a = true := by unfold placeOk; simp [hb]
    rw [if_neg h]
    exact Ev.ite_neg hb hj
theorem next_in {l : List S62} (h : bodyOk l 3 = true) {a : Int} (h0 : 0 ≤ a) (h1 : a < (l.length : Int)) : ∀ z ∈ nextAt (l.getD a.toNat z62) a, 0 ≤ z ∧ z < (l.length : Int) := by
  unfold bodyOk at h
  simp only [Bool.and_eq_true] at h
  obtain ⟨ha, _, hl⟩ := h
  have hj : a.toNat < l.length := by omega
  have hx : l.getD a.toNat z62 = l[a.toNat] := by simp [List.getD_eq_getElem?_getD, hj]
  have hi := List.all_eq_true.mp ha l[a.toNat] (List.getElem_mem hj)
  unfold insIn insOk at hi
  rw [decide_eq_true_eq] at hi
  obtain ⟨_, _, _, _, h5⟩ := hi
  have hlast : (l[a.toNat]).f0 ≠ 13 → (l[a.toNat]).f0 ≠ 11 → a + 1 < (l.length : Int) := by
    intro h13 h11
    rcases Int.lt_or_le (a + 1) (l.length : Int) with hlt | hge
    · exact hlt
    · exfalso
      have he : a.toNat = l.length - 1 := by omega
      unfold lastOk at hl
      rw [decide_eq_true_eq, ← he, hx] at hl
      omega
  rw [hx]
  intro z hz
  unfold nextAt at hz
  by_cases h13 : (l[a.toNat]).f0 = 13
  · rw [if_pos h13] at hz; exact absurd hz (by simp)
  · rw [if_neg h13] at hz
    by_cases h11 : (l[a.toNat]).f0 = 11
    · rw [if_pos h11] at hz
      obtain rfl : z = (l[a.toNat]).f4 := by simpa using hz
      omega
    · rw [if_neg h11] at hz
      have hlt := hlast h13 h11
      by_cases h12 : (l[a.toNat]).f0 = 12
      · rw [if_pos h12] at hz
        have hn : 0 ≤ (l[a.toNat]).f4 ∧ (l[a.toNat]).f4 < (l.length : Int) := by omega
        repeat' split at hz
        all_goals
          simp only [List.mem_cons, List.not_mem_nil, or_false] at hz
          omega
      · rw [if_neg h12] at hz
        obtain rfl : z = a + 1 := by simpa using hz
        omega
def unseen (s : List Bool) : Nat := s.count false
theorem unseen_set (s : List Bool) (i : Nat) (h : i < s.length) (hf : s[i] = false) : unseen (s.set i true) + 1 = unseen s := by
  unfold unseen
  rw [List.count_set h]
  have : 0 < s.count false := List.count_pos_iff.mpr (hf ▸ List.getElem_mem h)
  simp [hf]
  omega
theorem marks_both (l : List S62) (hb : bodyOk l 3 = true) (hl : l.length ≤ 24) : ∀ (m : Nat) (s : List Bool) (t : List Int), s.length = l.length → (∀ z ∈ t, 0 ≤ z ∧ z < (l.length : Int)) → 3 * unseen s + t.length ≤ m → m ≤ 1000000 →
    ∃ r, Ev (fun k => impl_reached.l0 k l s t) r ∧ Ev (fun k => spec_l18Marks.l0 k l s t) r ∧ r.length = l.length := by
  intro m
  induction m with
  | zero =>
    intro s t hs ht hm _
    obtain rfl : t = [] := List.eq_nil_of_length_eq_zero (by omega)
    exact ⟨s, Ev.one fun k => by rw [impl_reached.l0, if_neg (by simp)], Ev.one fun k => by rw [spec_l18Marks.l0, if_neg (by simp)], hs⟩
  | succ m ih =>
    intro s t hs ht hm hM
    cases t with
    | nil => exact ⟨s, Ev.one fun k => by rw [impl_reached.l0, if_neg (by simp)], Ev.one fun k => by rw [spec_l18Marks.l0, if_neg (by simp)], hs⟩
    | cons a t =>
      have ha := ht a List.mem_cons_self
      have htt : ∀ z ∈ t, 0 ≤ z ∧ z < (l.length : Int) := fun z hz => ht z (List.mem_cons_of_mem _ hz)
      have hr : rd (a :: t) 0 = a := by simp [rd, rdOf]
      have hd : (a :: t).drop (1 : Int).toNat = t := rfl
      have hd1 : (a :: t).drop 1 = t := rfl
      have hlen : ((a :: t).length : Int) = (t.length : Int) + 1 := by simp
      rw [List.length_cons] at hm
      have hj : a.toNat < s.length := by omega
      have hrd : rdOf false s a = s[a.toNat] := by simp [rdOf, List.getD_eq_getElem?_getD, hj]
      by_cases hsa : s[a.toNat] = true
      · obtain ⟨r, e1, e2, e3⟩ := ih s t hs htt (by omega) (by omega)
        refine ⟨r, ?_, ?_, e3⟩
        · refine Ev.step (fun k => by rw [impl_reached.l0, if_pos (by omega), if_pos (by omega), if_pos (by omega), hd, Option.bind_some, hr, if_pos ha.1, if_pos (by omega), if_pos (by rw [hrd]; exact hsa)]) e1
        · refine Ev.step (fun k => by rw [spec_l18Marks.l0, if_pos (by omega), if_pos (by omega), Option.bind_some, if_pos (by omega), hd1, Option.bind_some, if_pos (by simp; omega), Option.bind_some, hr, if_pos ha.1, if_pos (by omega), if_pos (by rw [hrd]; exact hsa), List.nil_append]) e2
      · have hf : s[a.toNat] = false := by simpa using hsa
        have hn := next_in hb ha.1 ha.2
        have hn2 := nextAt_length (l.getD a.toNat z62) a
        have hu := unseen_set s a.toNat hj hf
        have hp : placeOk l a = true := by
          unfold placeOk inn
          rw [hb, Bool.true_and, decide_eq_true_eq]
          omega
        obtain ⟨r, e1, e2, e3⟩ := ih (s.set a.toNat true) (t ++ nextAt (l.getD a.toNat z62) a) (by simpa using hs) (by
          intro z hz
          rcases List.mem_append.mp hz with hz | hz
          · exact htt z hz
          · exact hn z hz) (by rw [List.length_append]; omega) (by omega)
        refine ⟨r, ?_, ?_, e3⟩
        · refine Ev.step (fun k => by rw [impl_reached.l0, if_pos (by omega), if_pos (by omega), if_pos (by omega), hd, Option.bind_some, hr, if_pos ha.1, if_pos (by omega), if_neg (by rw [hrd]; exact hsa), impl_nextOf_eq l a ha.1 ha.2 (by omega), Option.bind_some, if_pos (by omega)]) e1
        · refine Ev.step (fun k => by rw [spec_l18Marks.l0, if_pos (by omega), if_pos (by omega), Option.bind_some, if_pos (by omega), hd1, Option.bind_some, if_pos (by simp; omega), Option.bind_some, hr, if_pos ha.1, if_pos (by omega), if_neg (by rw [hrd]; exact hsa)]) ?_
          have e := spec_NextOf_ev l a (by omega)
          unfold nextL at e
          rw [if_pos hp] at e
          refine Ev.bind e ?_
          refine Ev.ite_pos (by rw [List.nil_append]; omega) ?_
          rw [List.nil_append]
          exact e2
theorem reached_both (l : List S62) (hb : bodyOk l 3 = true) (hl : l.length ≤ 24) (t : List Int) (ht : ∀ z ∈ t, 0 ≤ z ∧ z < (l.length : Int)) (hn : t.length ≤ 2) :
    ∃ r, Ev (fun k => impl_reached.f k l t) r ∧ Ev (fun k => spec_l18Marks.f k l t) r ∧ r.length = l.length := by
  have hu : unseen (List.replicate l.length false) ≤ l.length := by
    unfold unseen
    have := List.count_le_length (a := false) (l := List.replicate l.length false)
    rw [List.length_replicate] at this
    exact this
  obtain ⟨r, e1, e2, e3⟩ := marks_both l hb hl 1000 (List.replicate l.length false) t (by simp) ht (by omega) (by omega)
  refine ⟨r, ?_, ?_, e3⟩
  · simp only [impl_reached.f]
    refine Ev.ite_pos (by omega) (Ev.ite_pos (by omega) ?_)
    simp only [impl_copyInts_eq t (by omega), Option.bind_some, Int.toNat_natCast]
    exact e1
  · simp only [spec_l18Marks.f]
    refine Ev.ite_pos (by omega) (Ev.ite_pos (by omega) ?_)
    simp only [Option.bind_some, List.nil_append, Int.toNat_natCast]
    exact Ev.ite_pos (by simp; omega) e2
theorem markInsS_l0 (n : Nat) : ∀ d (j : Nat) (l : List S62) (a : Int), l.length = n → n ≤ 1048576 → j + d = n → 0 ≤ a → a + 5 * d ≤ 1000000000 → DE (fun k => laws_markInsS.l0 k l a (j : Int)) (fun r => 0 ≤ r.1) := by
  intro d
  induction d with
  | zero =>
    intro j l a hl hn hj h0 hs
    exact DE.step (f := fun _ => some (a, l)) (fun k => by rw [laws_markInsS.l0, if_neg (by omega)]) (DE.now h0)
  | succ d ih =>
    intro j l a hl hn hj h0 hs
    have e1 : wrap64 (a + 1) = a + 1 := wrap_in (by omega) (by omega)
    have e2 : wrap64 (a + 1 + 1) = a + 1 + 1 := wrap_in (by omega) (by omega)
    have e3 : wrap64 (a + 1 + 1 + 1) = a + 1 + 1 + 1 := wrap_in (by omega) (by omega)
    have e4 : wrap64 (a + 1 + 1 + 1 + 1) = a + 1 + 1 + 1 + 1 := wrap_in (by omega) (by omega)
    have e5 : wrap64 (a + 1 + 1 + 1 + 1 + 1) = a + 1 + 1 + 1 + 1 + 1 := wrap_in (by omega) (by omega)
    refine DE.step (fun k => by rw [laws_markInsS.l0, if_pos (by omega), if_pos (by omega)]) ?_
    simp only [Option.bind_some, e1, e2, e3, e4, e5, wrapS (show j < n by omega) (by omega)]
    exact ih (j + 1) _ _ (by simp [hl]) hn (by omega) (by omega) (by omega)
theorem markInsS_de (l : List S62) (a : Int) (hl : l.length ≤ 1048576) (h0 : 0 ≤ a) (h : a ≤ 1000000) : DE (fun k => laws_markInsS.f k l a) (fun r => 0 ≤ r.1) := by
  simp only [laws_markInsS.f]
  exact markInsS_l0 l.length l.length 0 l a rfl hl (by omega) h0 (by omega)
theorem places_both (s : List Bool) (b : Bool) (hl : s.length ≤ 1048576) : ∀ d (j : Nat) (q : List Int), j + d = s.length → q.length ≤ j → ∃ r, Ev (fun k => impl_whereTrue.l0 k b q s (s.length : Int) (j : Int)) r ∧ Ev (fun k => spec_l18Places.l0 k s b q (j : Int)) r ∧ r.length ≤ s.length := by
  intro d
  induction d with
  | zero =>
    intro j q hj hq
    exact ⟨q, Ev.one fun k => by rw [impl_whereTrue.l0, if_neg (by omega)], Ev.one fun k => by rw [spec_l18Places.l0, if_neg (by omega)], by omega⟩
  | succ d ih =>
    intro j q hj hq
    have h : j < s.length := by omega
    by_cases hb : ((rdOf false s (j : Int)) == b) = true
    · obtain ⟨r, e1, e2, e3⟩ := ih (j + 1) (q ++ [(j : Int)]) (by omega) (by simp; omega)
      refine ⟨r, ?_, ?_, e3⟩
      · exact Ev.step (fun k => by rw [impl_whereTrue.l0, if_pos (by omega), if_pos (by omega), if_pos (by omega), if_pos hb, if_pos (by omega), wrapS h (by omega)]) e1
      · exact Ev.step (fun k => by rw [spec_l18Places.l0, if_pos (by omega), if_pos (by omega), if_pos hb, if_pos (by omega), wrapS h (by omega)]) e2
    · obtain ⟨r, e1, e2, e3⟩ := ih (j + 1) q (by omega) (by omega)
      refine ⟨r, ?_, ?_, e3⟩
      · exact Ev.step (fun k => by rw [impl_whereTrue.l0, if_pos (by omega), if_pos (by omega), if_pos (by omega), if_neg hb, wrapS h (by omega)]) e1
      · exact Ev.step (fun k => by rw [spec_l18Places.l0, if_pos (by omega), if_pos (by omega), if_neg hb, wrapS h (by omega)]) e2
theorem unreached_both (l : List S62) (hl : l.length ≤ 1048576) : ∃ r, Ev (fun k => impl_Unreached.f k l) r ∧ Ev (fun k => spec_Unreached.f k l) r ∧ r.length ≤ 1048576 := by
  by_cases h : bodyOk l 3 = true
  · have h2 : 1 ≤ l.length ∧ l.length ≤ 24 := by
      have hb := h
      unfold bodyOk inn at hb
      simp only [Bool.and_eq_true, decide_eq_true_eq] at hb
      omega
    obtain ⟨r, e1, e2, e3⟩ := reached_both l h h2.2 [0] (fun z hz => by have h0 : z = 0 := (by simpa using hz); omega) (by simp)
    obtain ⟨q, f1, f2, f3⟩ := places_both r false (by omega) r.length 0 [] (by omega) (by simp)
    refine ⟨q, ?_, ?_, by omega⟩
    · simp only [impl_Unreached.f]
      refine Ev.bind (impl_BodyOk_ev l 3 hl) (Ev.ite_pos h ?_)
      refine Ev.bind e1 (Ev.bind ?_ (Ev.now _))
      simp only [impl_whereTrue.f]
      exact f1
    · simp only [spec_Unreached.f]
      refine Ev.bind (spec_BodyOk_ev l 3 hl) (Ev.ite_pos h ?_)
      refine Ev.bind e2 (Ev.bind ?_ (Ev.now _))
      simp only [spec_l18Places.f]
      exact f2
  · refine ⟨[], ?_, ?_, by simp⟩
    · simp only [impl_Unreached.f]
      exact Ev.bind (impl_BodyOk_ev l 3 hl) (Ev.ite_neg h (Ev.now _))
    · simp only [spec_Unreached.f]
      exact Ev.bind (spec_BodyOk_ev l 3 hl) (Ev.ite_neg h (Ev.now _))
theorem FnExactUnreached (x0 : (List S64)) (ok0 : (x0.length ≤ maxLen ∧ ∀ z ∈ x0, (((Lit.int .i64 z.f0).wf = true) ∧ (((Lit.int .i64 z.f1).wf = true) ∧ (((Lit.int .i64 z.f2).wf = true) ∧ (((Lit.int .i64 z.f3).wf = true) ∧ ((Lit.int .i64 z.f4).wf = true))))))) : ∃ k, laws_FnExactUnreached.f k x0 = some true := by
  have hl : x0.length ≤ 9223372036854775807 := by have := ok0.1; unfold maxLen at this; omega
  refine Ev.rounds (g := fun k => laws_FnExactUnreached.f k x0) ?_
  simp only [laws_FnExactUnreached.f]
  refine Ev.bind (szInsS_ev x0 1048576 (by omega) (by omega) hl) ?_
  by_cases h : (x0.length : Int) ≤ 1048576
  case neg => rw [left?_no h]; exact Ev.ite_pos (by omega) (Ev.now _)
  rw [left?_yes h]
  refine Ev.ite_neg (by omega) ?_
  have hm : (x0.map cvIns).length ≤ 1048576 := by simp; omega
  obtain ⟨r, e1, e2, hn⟩ := unreached_both (x0.map cvIns) hm
  refine Ev.bind (toInsS_ev x0 (by omega)) ?_
  refine Ev.bind e2 ?_
  refine Ev.bind (toInsS_ev x0 (by omega)) ?_
  refine Ev.bind e1 ?_
  refine Ev.bind (eqIntS_self _ (by omega)) ?_
  simp only [if_true]
  refine Ev.bind (toInsS_ev x0 (by omega)) ?_
  refine Ev.bind (eqInsS_self _ hm) ?_
  simp only [if_true]
  obtain ⟨q, hq, hq0⟩ := markInsS_de (x0.map cvIns) 1 hm (by omega) (by omega)
  refine Ev.bind hq ?_
  refine Ev.ite_neg (by omega) ?_
  refine Ev.bind (eqIntS_self _ (by omega)) ?_
  refine Ev.step (fun k => by rw [laws_FnExactUnreached.j0]) ?_
  refine Ev.ite_neg (by simp) ?_
  refine Ev.bind (markIntS_ev _ _ (by omega) (by omega)) ?_
  refine Ev.bind (heldIntS_ev _ _ (by omega) (by omega)) ?_
  simp only [if_neg (show ¬ (1 + (r.length : Int) < 0) by omega), if_true]
  refine Ev.bind (toInsS_ev x0 (by omega)) ?_
  refine Ev.bind e1 ?_
  refine Ev.bind (eqIntS_self _ (by omega)) ?_
  simp only [if_true]
  refine Ev.bind (heldIntS_ev _ _ (by omega) (by omega)) ?_
  simp only [if_neg (show ¬ (1 + (r.length : Int) < 0) by omega), if_true]
  exact Ev.now _
end Go.Proofs.Ytbonbflbgopjlaa.Pure
namespace Go.Proofs.Ytbonbflbgopjlaa.Rd
open Go.RowKit Go.Proofs.YtbonbflbgopjlaaW.PrintWords Go.ChangeShapes Go.WideShapes
set_option linter.unusedVariables false
def Opens {α : Type} (P : Program) (t : TypeId) (d : Kd α) (ok : α → Prop) : Prop :=
  ∀ (H : Type) (enc : TypeId × Value → H) (w : World) (base : Nat) (spare : Nat → Bool) (held : Bool) (fuel : Nat) (cs : List Value) (x : DataW H × List MemPlace),
    DataW.trod enc P w base spare held fuel t cs = some x → ∃ y, d.K w y cs ∧ ok y
theorem Opens.int {P : Program} {t : TypeId} {k : IntKind} (ht : P.underlying t = some (.int k)) : Opens P t (Kd.int k) (fun n => (Lit.int k n).wf = true) := by
  intro H enc w base spare held fuel cs x h
  obtain ⟨n, rfl, _, hw⟩ := DataW.trod_int ht h
  exact ⟨n, rfl, hw⟩
theorem Opens.bool {P : Program} {t : TypeId} (ht : P.underlying t = some .bool) : Opens P t Kd.bool (fun _ => True) := by
  intro H enc w base spare held fuel cs x h
  obtain ⟨n, rfl, _⟩ := DataW.trod_bool ht h
  exact ⟨n, rfl, trivial⟩
theorem Opens.weaken {α : Type} {P : Program} {t : TypeId} {d : Kd α} {ok ok' : α → Prop} (h : Opens P t d ok) (hk : ∀ x, ok x → ok' x) : Opens P t d ok' := by
  intro H enc w base spare held fuel cs x hx
  obtain ⟨y, hy, o⟩ := h H enc w base spare held fuel cs x hx
  exact ⟨y, hy, hk y o⟩
theorem list_of {α : Type} {Q : Nat → α → Prop} : ∀ n : Nat, (∀ i, i < n → ∃ y, Q i y) → ∃ ys : List α, ys.length = n ∧ ∀ i y, ys[i]? = some y → Q i y := by
  intro n
  induction n with
  | zero => exact fun _ => ⟨[], rfl, fun i y h => by simp at h⟩
  | succ n ih =>
    intro h
    obtain ⟨ys, hl, hq⟩ := ih (fun i hi => h i (by omega))
    obtain ⟨y, hy⟩ := h n (by omega)
    refine ⟨ys ++ [y], by simp [hl], fun i z hz => ?_⟩
    rcases Nat.lt_or_ge i ys.length with hi | hi
    · rw [List.getElem?_append_left hi] at hz
      exact hq i z hz
    · rw [List.getElem?_append_right hi] at hz
      have h0 : i - ys.length = 0 := by
        have := (List.getElem?_eq_some_iff.1 hz).1
        simp at this
        omega
      rw [h0] at hz
      simp at hz
      subst hz
      have : i = n := by omega
      rw [this]
      exact hy
theorem Opens.slice {α : Type} {P : Program} {t e : TypeId} (q : Nat) {d : Kd α} {ok : α → Prop} (ht : P.underlying t = some (.slice e)) (hs : P.cellsOf e = d.sz) (he : Opens P e d ok) :
    Opens P t (Kd.slice q d) (fun xs => xs.length ≤ maxLen ∧ ∀ x ∈ xs, ok x) := by
  intro H enc w base spare held fuel cs x h
  rcases DataW.trod_slice ht h with ⟨rfl, _⟩ | ⟨a, len, cap, elems, rest, n, _, rfl, _, _, hl, hm, hlen, hel, _, _⟩
  · exact ⟨[], ⟨none, 0, rfl, Nat.le_refl _, rfl, by simp, fun hp => absurd hp (by simp)⟩, by simp, by simp⟩
  · have each : ∀ i, i < len → ∃ y, ∃ c, w.cells? base (a.add (i * d.sz)) d.sz = some c ∧ d.K w y c ∧ ok y := by
      intro i hi
      have h1 := hel i hi
      rw [List.getElem?_eq_getElem (by omega), Option.bind_eq_some_iff, hs] at h1
      obtain ⟨c, hc, hx⟩ := h1
      obtain ⟨y, hy, ho⟩ := he H enc w base spare held n c _ hx
      exact ⟨y, c, hc, hy, ho⟩
    obtain ⟨ys, hyl, hq⟩ := list_of len each
    have hm' : len ≤ 9223372036854775807 := by unfold maxLen at hm; omega
    refine ⟨ys, ⟨some a, cap, by rw [hyl], by omega, rfl, by omega, fun _ => ⟨a, rfl, fun j p hj => ?_⟩⟩, by omega, fun y hy => ?_⟩
    · obtain ⟨c, hc, hk, _⟩ := hq j p hj
      obtain ⟨_, hcl, hcell⟩ := World.cells?_some hc
      refine ⟨c, hcl, hk, fun i u hu => ?_⟩
      have hi : i < d.sz := by
        have := (List.getElem?_eq_some_iff.1 hu).1
        omega
      rw [← Addr.add_add, hcell i hi, hu]
    · obtain ⟨i, hi⟩ := List.getElem?_of_mem hy
      obtain ⟨c, _, _, ho⟩ := hq i y hi
      exact ho
def OpensAt {α : Type} (P : Program) (fs : List Field) (off : Nat) (d : Kd α) (ok : α → Prop) : Prop :=
  ∀ (H : Type) (enc : TypeId × Value → H) (w : World) (base : Nat) (spare : Nat → Bool) (held : Bool) (n : Nat) (cs : List Value), cs.length = off + d.sz →
    (∀ f ∈ fs, ∃ y, DataW.trod enc P w base spare held n f.type ((cs.drop f.offset).take (P.cellsOf f.type)) = some y) → ∃ y, d.K w y (cs.drop off) ∧ ok y
theorem OpensAt.one {α : Type} {P : Program} {f : Field} {off : Nat} {d : Kd α} {ok : α → Prop} (ho : f.offset = off) (hs : P.cellsOf f.type = d.sz) (h : Opens P f.type d ok) : OpensAt P [f] off d ok := by
  intro H enc w base spare held n cs hl hf
  obtain ⟨x, hx⟩ := hf f (by simp)
  rw [ho, hs, List.take_of_length_le (by simp; omega)] at hx
  exact h _ _ _ _ _ _ _ _ _ hx
theorem OpensAt.cons {α β : Type} {P : Program} {f : Field} {fs : List Field} {off : Nat} {a : Kd α} {b : Kd β} {oka : α → Prop} {okb : β → Prop} (ho : f.offset = off) (hs : P.cellsOf f.type = a.sz) (h : Opens P f.type a oka)
    (hr : OpensAt P fs (off + a.sz) b okb) : OpensAt P (f :: fs) off (Kd.pair a b) (fun x => oka x.1 ∧ okb x.2) := by
  intro H enc w base spare held n cs hl hf
  obtain ⟨x, hx⟩ := hf f (by simp)
  rw [ho, hs] at hx
  obtain ⟨y, hy, oy⟩ := h _ _ _ _ _ _ _ _ _ hx
  have hl' : cs.length = (off + a.sz) + b.sz := by rw [hl]; show off + (a.sz + b.sz) = _; omega
  obtain ⟨z, hz, oz⟩ := hr H enc w base spare held n cs hl' (fun g hg => hf g (by simp [hg]))
  refine ⟨(y, z), ⟨_, _, ?_, hy, hz⟩, oy, oz⟩
  rw [← List.drop_drop]
  exact (List.take_append_drop _ _).symm
theorem Opens.struct {α : Type} {P : Program} {t : TypeId} {fs : List Field} {d : Kd α} {ok : α → Prop} (ht : P.underlying t = some (.struct (List.toArray fs))) (hs : P.cellsOf t = d.sz) (h : OpensAt P fs 0 d ok) : Opens P t d ok := by
  intro H enc w base spare held fuel cs x hx
  obtain ⟨xs, n, _, _, hl, hlen, hf⟩ := DataW.trod_struct ht hx
  obtain ⟨y, hy, oy⟩ := h H enc w base spare held n cs (by omega) (fun f hm => by
    obtain ⟨i, hi⟩ := List.getElem?_of_mem hm
    have hi' : (List.toArray fs)[i]? = some f := by simpa using hi
    have h1 := hf i f hi'
    have hlt : i < xs.length := by
      have := (Array.getElem?_eq_some_iff.1 hi').1
      omega
    rw [List.getElem?_eq_getElem hlt] at h1
    exact ⟨_, h1⟩)
  exact ⟨y, by simpa using hy, oy⟩
theorem Opens.iso {α β : Type} {P : Program} {t : TypeId} {d : Kd α} {ok : α → Prop} (f : β → α) (g : α → β) (hg : ∀ x, f (g x) = x) (h : Opens P t d ok) : Opens P t (Kd.iso d f) (fun y => ok (f y)) := by
  intro H enc w base spare held fuel cs x hx
  obtain ⟨y, hy, o⟩ := h H enc w base spare held fuel cs x hx
  refine ⟨g y, ?_, ?_⟩
  · show d.K w (f (g y)) cs
    rw [hg]
    exact hy
  · show ok (f (g y))
    rw [hg]
    exact o
theorem Opens.at_slice {α : Type} {P : Program} {t : TypeId} {q : Nat} {d : Kd α} {ok : List α → Prop} (h : Opens P t (Kd.slice q d) ok) {H : Type} {enc : TypeId × Value → H} {w : World} {base : Nat} {spare : Nat → Bool} {held : Bool} {v : Value} {x : DataW H} {ps : List MemPlace}
    {e : TypeId} {r : Reach} {b0 : Nat} (hu : P.underlying t = some (.slice e)) (hv : Value.okWide P w r b0 t v) (hx : DataW.Trod enc P w base spare held t v x ps) : ∃ xs A c, v = .slice A xs.length c ∧ xs.length ≤ c ∧ d.C w A xs.length xs ∧ ok xs := by
  obtain ⟨a, len, cap, rfl⟩ := okWide_slice hu hv
  obtain ⟨fuel, hf⟩ := hx
  obtain ⟨xs, ⟨A, c, hcs, hl, hC⟩, o⟩ := h _ _ _ _ _ _ _ _ _ hf
  refine ⟨xs, A, c, ?_, hl, hC, o⟩
  simpa [Value.cells] using hcs
end Go.Proofs.Ytbonbflbgopjlaa.Rd
