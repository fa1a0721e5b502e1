/- A part of the proof that the law FnExactProgText holds for every input: the words, functions and walks that its row needs, without a condition of their own. -/
import Derived.ProofKit
import Derived.DataElems
import Derived.ChangeArms
import Derived.SizedLaws
import Derived.Test.YtkjfcmgpplapeaaDoorRows
import Derived.LaidMore
import Derived.OpenShut
import Derived.Stop.Joined
import Derived.Test.YtkjfcmgpplapeaaDoorZFnExactProgTexta1
import Derived.Test.YtkjfcmgpplapeaaDoorZFnExactProgTexta2
import Derived.Test.YtkjfcmgpplapeaaDoorZFnExactProgTexta18
namespace Go.Proofs.YtkjfcmgpplapeaaDoor.Pure
open Go.RowKit Go.Proofs.YtkjfcmgpplapeaaDoor.PFnExactProgText Go.Proofs.YtkjfcmgpplapeaaDoorW.PrintWords Go.Proofs.YtkjfcmgpplapeaaDoorW.PrintLast Go.Proofs.YtkjfcmgpplapeaaDoor.Lp
set_option linter.unusedVariables false
set_option linter.unusedSimpArgs false
theorem toIntS_ev (l : List Int) (h : l.length ≤ 35184372088832) : Ev (fun k => laws_toIntS.f k l) l := by
  have key := count_up (L := fun j k => laws_toIntS.l0 k l (l.take j ++ List.replicate (l.length - j) 0) (j : Int)) (R := fun _ => l) (n := l.length)
    (Ev.one fun k => by simp [laws_toIntS.l0])
    (fun j hj ih => Ev.step (fun k => by
      simp only [laws_toIntS.l0]
      rw [if_pos (by omega), if_pos (by omega), if_pos (by simp; omega), wrapS hj (by omega), Int.toNat_natCast, fill_set l 0 j hj _ (rd_get hj)]) ih)
  refine Ev.congr (fun k => ?_) (key 0 (Nat.zero_le _))
  unfold laws_toIntS.f
  rw [if_pos (by omega), if_pos (by simpa using h)]
  simp
theorem eqIntS_ev (a b : List Int) (h : a.length ≤ 9223372036854775807) : Ev (fun k => laws_eqIntS.f k a b) (decide (a = b)) := by
  by_cases hl : a.length = b.length
  · have key := count_up (L := fun j k => laws_eqIntS.l0 k a b (j : Int)) (R := fun j => agree a b j) (n := a.length)
      (Ev.one fun k => by simp [laws_eqIntS.l0, agree_end hl])
      (fun j hj ih => by
        by_cases e : a[j] = b[j]
        · exact Ev.step (fun k => by
            simp only [laws_eqIntS.l0]
            rw [if_pos (by omega), if_pos (by omega), if_pos (by omega), if_pos (by rw [rd_get hj, rd_get (by omega), e]), wrapS hj (by omega)]) (by rw [agree_step hj (by omega) e]; exact ih)
        · exact Ev.one fun k => by
            simp only [laws_eqIntS.l0]
            rw [if_pos (by omega), if_pos (by omega), if_pos (by omega), if_neg (by rw [rd_get hj, rd_get (by omega)]; exact e), agree_no hj (by omega) e])
    refine Ev.congr (fun k => ?_) (key 0 (Nat.zero_le _))
    unfold laws_eqIntS.f
    rw [if_pos (by omega)]
    rfl
  · refine Ev.all fun k => ?_
    unfold laws_eqIntS.f
    rw [if_neg (by omega), decide_eq_false (fun e => hl (by rw [e]))]
theorem eqIntS_self (a : List Int) (h : a.length ≤ 9223372036854775807) : Ev (fun k => laws_eqIntS.f k a a) true := by
  have := eqIntS_ev a a h
  simpa using this
def cvIns (x : S30) : S32 := ⟨x.f0, x.f1, x.f2, x.f3, x.f4⟩
def cvInsS (xs : (List S30)) : (List S32) := xs.map cvIns
def wlInsS (xs : (List S30)) : Nat := xs.length
def wiInsS (xs : (List S32)) : Nat := xs.length
theorem w_cvInsS (xs : (List S30)) : wiInsS (cvInsS xs) = wlInsS xs := by simp [wiInsS, wlInsS, cvInsS]
theorem szIntS_ev (l : (List Int)) (a : Int) (h0 : 0 ≤ a) (hB : a ≤ 1048576) (hl : l.length ≤ 9223372036854775807) : Ev (fun k => laws_szIntS.f l a) (left? l.length a) := by
  refine Ev.all fun k => ?_
  unfold laws_szIntS.f left?
  rw [wrap_in (by omega) (by omega)]
  by_cases h : (l.length : Int) ≤ a
  · rw [if_neg (by omega), if_pos h]
  · rw [if_pos (by omega), if_neg h]
theorem szInsS_ev (l : (List S30)) (a : Int) (h0 : 0 ≤ a) (hB : a ≤ 1048576) (hl : l.length ≤ 9223372036854775807) : Ev (fun k => laws_szInsS.f l a) (left? l.length a) := by
  refine Ev.all fun k => ?_
  unfold laws_szInsS.f left?
  rw [wrap_in (by omega) (by omega)]
  by_cases h : (l.length : Int) ≤ a
  · rw [if_neg (by omega), if_pos h]
  · rw [if_pos (by omega), if_neg h]
theorem szInsSS_ev (xs : (List (List S30))) (a : Int) (h0 : 0 ≤ a) (hB : a ≤ 1048576) (hfin : (xs.length ≤ 9223372036854775807 ∧ ∀ y ∈ xs, y.length ≤ 9223372036854775807)) : Ev (fun k => laws_szInsSS.f k xs a) (left? (xs.length + total wlInsS xs) a) := by
  obtain ⟨hl, hfin⟩ := hfin
  have rd_e : ∀ (j : Nat) (hj : j < xs.length), rd_L2 xs (j : Int) = xs[j] := fun j hj => by simp [rd_L2, List.getD_eq_getElem?_getD, hj]
  by_cases h : (xs.length : Int) ≤ a
  · have key := sz_loop (L := fun j a k => laws_szInsSS.l0 k xs a (j : Int)) xs wlInsS 1048576 (fun a => Ev.one fun k => by simp only [laws_szInsSS.l0]; rw [if_neg (by omega)])
      (fun j hj a hB hw r ih => by
        have h0 : 0 ≤ a := by omega
        have hw' : ((xs[j].length : Nat) : Int) ≤ a := hw
        refine Ev.step (fun k => by simp only [laws_szInsSS.l0]; rw [if_pos (by omega), if_pos (by omega), rd_e j hj]) (Ev.bind (szInsS_ev xs[j] a h0 hB (hfin xs[j] (List.getElem_mem hj))) ?_)
        rw [left?_yes hw', wrapS hj hl]
        exact Ev.ite_neg (by omega) ih)
      (fun j hj a h0 hB hw => by
        have hw' : ¬ ((xs[j].length : Nat) : Int) ≤ a := by have : a < (wlInsS xs[j] : Int) := hw; intro c; exact absurd (show (wlInsS xs[j] : Int) ≤ a from c) (by omega)
        refine Ev.step (fun k => by simp only [laws_szInsSS.l0]; rw [if_pos (by omega), if_pos (by omega), rd_e j hj]) (Ev.bind (szInsS_ev xs[j] a h0 hB (hfin xs[j] (List.getElem_mem hj))) ?_)
        rw [left?_no hw']
        exact Ev.ite_pos (by omega) (Ev.now _)) (a - (xs.length : Int)) (by omega) (by omega)
    rw [left?_add h] at key
    refine Ev.congr (fun k => ?_) key
    unfold laws_szInsSS.f
    rw [wrap_in (by omega) (by omega), if_neg (by omega)]
    rfl
  · refine Ev.all fun k => ?_
    unfold laws_szInsSS.f
    rw [wrap_in (by omega) (by omega), if_pos (by omega), left?_no (by omega)]
theorem szProg_ev (a_0 : (List Int)) (a_1 : (List (List S30))) (a : Int) (h0 : 0 ≤ a) (hB : a ≤ 1048576) (hfin : (a_0.length ≤ 9223372036854775807 ∧ (a_1.length ≤ 9223372036854775807 ∧ ∀ y ∈ a_1, y.length ≤ 9223372036854775807))) : Ev (fun k => laws_szProg.f k a_0 a_1 a) (left? (a_0.length + ((a_1.length + total wlInsS a_1))) a) := by
  obtain ⟨h0_, h1_⟩ := hfin
  simp only [laws_szProg.f]
  refine Ev.bind (szIntS_ev a_0 a (by omega) (by omega) h0_) ?_
  by_cases c0 : ((a_0.length : Nat) : Int) ≤ a
  case neg => rw [left?_no c0]; (try rw [left?_no (by omega)]); exact Ev.ite_pos (by omega) (Ev.now _)
  rw [left?_yes c0]
  refine Ev.ite_neg (by omega) ?_
  refine Ev.bind (szInsSS_ev a_1 (a - ((a_0.length : Nat) : Int)) (by omega) (by omega) h1_) ?_
  by_cases c1 : (((a_1.length + total wlInsS a_1) : Nat) : Int) ≤ (a - ((a_0.length : Nat) : Int))
  case neg => rw [left?_no c1]; (try rw [left?_no (by omega)]); exact Ev.ite_pos (by omega) (Ev.now _)
  rw [left?_yes c1]
  refine Ev.ite_neg (by omega) ?_
  (try rw [left?_yes (by omega)])
  exact Ev.val (by omega) (Ev.now _)
theorem toIns_ev (a_0 : Int) (a_1 : Int) (a_2 : Int) (a_3 : Int) (a_4 : Int)  : Ev (fun k => laws_toIns.f a_0 a_1 a_2 a_3 a_4) (a_0, a_1, a_2, a_3, a_4) := by
  exact Ev.all fun k => rfl
theorem toInsS_ev (xs : (List S30)) (h : xs.length ≤ 1048576) : Ev (fun k => laws_toInsS.f k xs) (xs.map cvIns) := by
  have rd_e : ∀ (j : Nat) (hj : j < xs.length), rd_T30 xs (j : Int) = xs[j] := fun j hj => by simp [rd_T30, List.getD_eq_getElem?_getD, hj]
  have key := to_loop (L := fun j ys k => laws_toInsS.l0 k xs ys (j : Int)) xs cvIns z32 (fun ys _ => Ev.one fun k => by simp only [laws_toInsS.l0]; rw [if_neg (by omega)])
    (fun j hj ys hy r ih => by
      refine Ev.step (fun k => by simp only [laws_toInsS.l0]; rw [if_pos (by omega), if_pos (by omega), rd_e j hj]) (Ev.bind (toIns_ev (xs[j].f0) (xs[j].f1) (xs[j].f2) (xs[j].f3) (xs[j].f4) ) ?_)
      refine Ev.ite_pos (by omega) ?_
      rw [wrapS hj (by omega), Int.toNat_natCast]
      exact ih)
  refine Ev.congr (fun k => ?_) key
  unfold laws_toInsS.f
  rw [if_pos (by omega), if_pos (by simp; omega)]
  simp only [Int.toNat_natCast]
  rfl
theorem toInsSS_ev (xs : (List (List S30))) (h : (xs.length + total wlInsS xs) ≤ 1048576) : Ev (fun k => laws_toInsSS.f k xs) (xs.map cvInsS) := by
  have rd_e : ∀ (j : Nat) (hj : j < xs.length), rd_L2 xs (j : Int) = xs[j] := fun j hj => by simp [rd_L2, List.getD_eq_getElem?_getD, hj]
  have key := to_loop (L := fun j ys k => laws_toInsSS.l0 k xs ys (j : Int)) xs cvInsS [] (fun ys _ => Ev.one fun k => by simp only [laws_toInsSS.l0]; rw [if_neg (by omega)])
    (fun j hj ys hy r ih => by
      refine Ev.step (fun k => by simp only [laws_toInsSS.l0]; rw [if_pos (by omega), if_pos (by omega), rd_e j hj]) (Ev.bind (toInsS_ev xs[j] (by have := total_mem wlInsS (List.getElem_mem hj); have h2 : xs[j].length = wlInsS xs[j] := rfl; omega)) ?_)
      refine Ev.ite_pos (by omega) ?_
      rw [wrapS hj (by omega), Int.toNat_natCast]
      exact ih)
  refine Ev.congr (fun k => ?_) key
  unfold laws_toInsSS.f
  rw [if_pos (by omega), if_pos (by simp; omega)]
  simp only [Int.toNat_natCast]
  rfl
theorem toProg_ev (a_0 : (List Int)) (a_1 : (List (List S30))) (h0 : a_0.length ≤ 1048576) (h1 : (a_1.length + total wlInsS a_1) ≤ 1048576) : Ev (fun k => laws_toProg.f k a_0 a_1) (a_0, (a_1.map cvInsS)) := by
  simp only [laws_toProg.f]
  refine Ev.bind (toIntS_ev a_0 (by omega)) ?_
  try simp only []
  refine Ev.bind (toInsSS_ev a_1 h1) ?_
  try simp only []
  exact Ev.now _
theorem eqIns_self (a_0 : Int) (a_1 : Int) (a_2 : Int) (a_3 : Int) (a_4 : Int)  : Ev (fun k => laws_eqIns.f a_0 a_1 a_2 a_3 a_4 a_0 a_1 a_2 a_3 a_4) true := by
  exact Ev.all fun k => by simp [laws_eqIns.f]
theorem eqInsS_self (xs : (List S32)) (h : xs.length ≤ 1048576) : Ev (fun k => laws_eqInsS.f k xs xs) true := by
  have rd_e : ∀ (j : Nat) (hj : j < xs.length), rd_T32 xs (j : Int) = xs[j] := fun j hj => by simp [rd_T32, List.getD_eq_getElem?_getD, hj]
  have key := yes_loop (L := fun j k => laws_eqInsS.l0 k xs xs (j : Int)) xs.length true (Ev.one fun k => by simp only [laws_eqInsS.l0]; rw [if_neg (by omega)])
    (fun j hj ih => by
      refine Ev.step (fun k => by simp only [laws_eqInsS.l0]; rw [if_pos (by omega), if_pos (by omega), if_pos (by omega), rd_e j hj]) (Ev.bind (eqIns_self (xs[j].f0) (xs[j].f1) (xs[j].f2) (xs[j].f3) (xs[j].f4) ) ?_)
      refine Ev.ite_pos rfl ?_
      rw [wrapS hj (by omega)]
      exact ih)
  refine Ev.congr (fun k => ?_) key
  unfold laws_eqInsS.f
  rw [if_pos rfl]
  rfl
theorem eqInsSS_self (xs : (List (List S32))) (h : (xs.length + total wiInsS xs) ≤ 1048576) : Ev (fun k => laws_eqInsSS.f k xs xs) true := by
  have rd_e : ∀ (j : Nat) (hj : j < xs.length), rd_L6 xs (j : Int) = xs[j] := fun j hj => by simp [rd_L6, List.getD_eq_getElem?_getD, hj]
  have key := yes_loop (L := fun j k => laws_eqInsSS.l0 k xs xs (j : Int)) xs.length true (Ev.one fun k => by simp only [laws_eqInsSS.l0]; rw [if_neg (by omega)])
    (fun j hj ih => by
      refine Ev.step (fun k => by simp only [laws_eqInsSS.l0]; rw [if_pos (by omega), if_pos (by omega), if_pos (by omega), rd_e j hj]) (Ev.bind (eqInsS_self xs[j] (by have := total_mem wiInsS (List.getElem_mem hj); have h2 : xs[j].length = wiInsS xs[j] := rfl; omega)) ?_)
      refine Ev.ite_pos rfl ?_
      rw [wrapS hj (by omega)]
      exact ih)
  refine Ev.congr (fun k => ?_) key
  unfold laws_eqInsSS.f
  rw [if_pos rfl]
  rfl
theorem eqProg_self (a_0 : (List Int)) (a_1 : (List (List S32))) (h0 : a_0.length ≤ 1048576) (h1 : (a_1.length + total wiInsS a_1) ≤ 1048576) : Ev (fun k => laws_eqProg.f k a_0 a_1 a_0 a_1) true := by
  simp only [laws_eqProg.f, eq_self, if_true, bne_self_eq_false, Bool.false_eq_true, if_false]
  refine Ev.bind (eqIntS_self a_0 (by omega)) ?_
  try simp only [eq_self, if_true, bne_self_eq_false, Bool.false_eq_true, if_false]
  refine Ev.bind (eqInsSS_self a_1 h1) ?_
  try simp only [eq_self, if_true, bne_self_eq_false, Bool.false_eq_true, if_false]
  exact Ev.now _
def inn (a lo hi : Int) : Bool := decide (lo ≤ a ∧ a ≤ hi)
theorem spec_l1In_eq (a lo hi : Int) : spec_l1In.f a lo hi = some (inn a lo hi) := by
  unfold spec_l1In.f inn
  by_cases h : a ≥ lo
  · rw [if_pos h]; congr 1; simp; omega
  · rw [if_neg h, decide_eq_false (by omega)]
theorem impl_within_eq (a lo hi : Int) : impl_within.f a lo hi = some (inn a lo hi) := by
  unfold impl_within.f inn
  by_cases h : a ≥ lo
  · rw [if_pos h]; congr 1; simp; omega
  · rw [if_neg h, decide_eq_false (by omega)]
def InsR (op r a b n p c : Int) : Prop :=
  (0 ≤ r ∧ r ≤ 3) ∧ (0 ≤ a ∧ a ≤ 3) ∧ (0 ≤ b ∧ b ≤ 3) ∧ (0 ≤ c ∧ c ≤ 3) ∧
  ((op = 1 ∧ (-1000000000 ≤ n ∧ n ≤ 1000000000) ∧ a = 0 ∧ b = 0) ∨ ((op = 2 ∨ op = 3 ∨ op = 4) ∧ n = 0) ∨ (op = 5 ∧ (0 ≤ n ∧ n < c) ∧ r = 0 ∧ b = 0) ∨
   ((op = 6 ∨ op = 8) ∧ (0 ≤ n ∧ n < c) ∧ a = 0 ∧ r ≠ b) ∨ (op = 7 ∧ (0 ≤ n ∧ n < c) ∧ b = 0) ∨ (op = 9 ∧ (0 ≤ n ∧ n < c) ∧ r = 0 ∧ a = 0 ∧ b = 0) ∨ (op = 10 ∧ r = 0 ∧ b = 0 ∧ n = 0) ∨
   (op = 11 ∧ (0 ≤ n ∧ n < p) ∧ r = 0 ∧ a = 0 ∧ b = 0) ∨ (op = 12 ∧ (0 ≤ n ∧ n < p) ∧ r = 0 ∧ b = 0) ∨ (op = 13 ∧ r = 0 ∧ a = 0 ∧ b = 0 ∧ n = 0))
instance (op r a b n p c : Int) : Decidable (InsR op r a b n p c) := by unfold InsR; infer_instance
def insOk (op r a b n p c : Int) : Bool := decide (InsR op r a b n p c)
theorem op_cases (op : Int) : op = 1 ∨ op = 2 ∨ op = 3 ∨ op = 4 ∨ op = 5 ∨ op = 6 ∨ op = 7 ∨ op = 8 ∨ op = 9 ∨ op = 10 ∨ op = 11 ∨ op = 12 ∨ op = 13 ∨ (op < 1 ∨ 13 < op) := by omega
theorem wrap_pred {p : Int} (h0 : -9223372036854775807 ≤ p) (h1 : p ≤ 9223372036854775807) : wrap64 (p - 1) = p - 1 := wrap_in (by omega) (by omega)
theorem spec_InsOk_ev (op r a b n p c : Int) : Ev (fun k => spec_InsOk.f k op r a b n p c) (insOk op r a b n p c) := by
  refine ⟨5, fun k hk => ?_⟩
  obtain ⟨m, rfl⟩ : ∃ m, k = m + 5 := ⟨k - 5, by omega⟩
  by_cases hcc : 0 ≤ c ∧ c ≤ 3
  case neg =>
    have h' : ¬ InsR op r a b n p c := by unfold InsR; omega
    simp only [spec_InsOk.f, spec_InsOk.j0, spec_l1In_eq, Option.bind_some, inn, insOk, decide_eq_false hcc, decide_eq_false h', Bool.not_false, if_true]
    repeat' split
    all_goals rfl
  have hc : -9223372036854775807 ≤ c := by omega
  have hc' : c ≤ 9223372036854775807 := by omega
  simp only [spec_InsOk.f, spec_InsOk.j0, spec_InsOk.j1, spec_InsOk.j2, spec_InsOk.j3, spec_l1In_eq, Option.bind_some, inn, insOk, decide_eq_true_eq, wrap_pred hc hc']
  rcases op_cases op with rfl | rfl | rfl | rfl | rfl | rfl | rfl | rfl | rfl | rfl | rfl | rfl | rfl | h
  case inr.inr.inr.inr.inr.inr.inr.inr.inr.inr.inr.inr.inr =>
    have h' : ¬ InsR op r a b n p c := by unfold InsR; omega
    have h4 : (op == 4) = false := by simpa using (show ¬ op = 4 by omega)
    have h8 : (op == 8) = false := by simpa using (show ¬ op = 8 by omega)
    simp only [if_neg (show ¬ op = 1 by omega), if_neg (show ¬ op = 2 by omega), if_neg (show ¬ op = 3 by omega), if_neg (show ¬ op = 5 by omega), if_neg (show ¬ op = 6 by omega), if_neg (show ¬ op = 7 by omega), if_neg (show ¬ op = 9 by omega), if_neg (show ¬ op = 10 by omega), if_neg (show ¬ op = 11 by omega), if_neg (show ¬ op = 12 by omega), if_neg (show ¬ op = 13 by omega), decide_eq_false h', h4, h8, Bool.false_eq_true, if_false]
    repeat' split
    all_goals rfl
  all_goals
    simp only [InsR]
    simp
    repeat' split
    all_goals first
      | (congr 1; rw [Bool.eq_iff_iff]; simp; omega)
      | (simp; omega)
theorem impl_isReg_eq (a : Int) : impl_isReg.f a = some (inn a 0 3) := by simp [impl_isReg.f, impl_within_eq]
theorem impl_ofChan_eq (a : Int) : impl_ofChan.f a = some (inn a 5 9) := by simp [impl_ofChan.f, impl_within_eq]
theorem impl_InsOk_ev (op r a b n p c : Int) (hp : -9223372036854775807 ≤ p) (hp' : p ≤ 9223372036854775807) : Ev (fun k => impl_InsOk.f k op r a b n p c) (insOk op r a b n p c) := by
  refine ⟨8, fun k hk => ?_⟩
  obtain ⟨m, rfl⟩ : ∃ m, k = m + 8 := ⟨k - 8, by omega⟩
  by_cases hcc : 0 ≤ c ∧ c ≤ 3
  case neg =>
    have h' : ¬ InsR op r a b n p c := by unfold InsR; omega
    simp only [impl_InsOk.f, impl_InsOk.j0, impl_within_eq, Option.bind_some, inn, insOk, decide_eq_false hcc, decide_eq_false h', Bool.false_eq_true, if_false, if_true]
  have hc : -9223372036854775807 ≤ c := by omega
  have hc' : c ≤ 9223372036854775807 := by omega
  simp only [impl_InsOk.f, impl_InsOk.j0, impl_InsOk.j1, impl_InsOk.j2, impl_named.f, impl_named.j0, impl_named.j1, impl_named.j2, impl_named.j3, impl_isReg_eq, impl_ofChan_eq, impl_within_eq, Option.bind_some, inn, insOk, decide_eq_true_eq, wrap_pred hc hc', wrap_pred hp hp']
  rcases op_cases op with rfl | rfl | rfl | rfl | rfl | rfl | rfl | rfl | rfl | rfl | rfl | rfl | rfl | h
  case inr.inr.inr.inr.inr.inr.inr.inr.inr.inr.inr.inr.inr =>
    have h' : ¬ InsR op r a b n p c := by unfold InsR; omega
    simp only [if_neg (show ¬ (1 ≤ op ∧ op ≤ 13) by omega), decide_eq_false h', if_true]
    repeat' split
    all_goals rfl
  all_goals
    simp only [InsR]
    simp
    repeat' split
    all_goals first
      | (congr 1; rw [Bool.eq_iff_iff]; simp; omega)
      | (simp; omega)
def insIn (p c : Int) (x : S32) : Bool := insOk x.f0 x.f1 x.f2 x.f3 x.f4 p c
def lastOk (l : List S32) : Bool := decide ((l.getD (l.length - 1) z32).f0 = 13 ∨ (l.getD (l.length - 1) z32).f0 = 11)
def bodyOk (l : List S32) (c : Int) : Bool := l.all (insIn (l.length : Int) c) && (inn (l.length : Int) 1 24 && inn c 0 3 && lastOk l)
theorem rd_ins (l : List S32) (j : Nat) (h : j < l.length) : rd_T32 l (j : Int) = l[j] := by simp [rd_T32, List.getD_eq_getElem?_getD, h]
theorem last_ok (l : List S32) : (if (l.getD (l.length - 1) z32).f0 = 13 then some true else some ((l.getD (l.length - 1) z32).f0 == 11)) = some (lastOk l) := by
  unfold lastOk
  generalize (l.getD (l.length - 1) z32).f0 = q
  by_cases h : q = 13
  · rw [if_pos h, decide_eq_true (.inl h)]
  · rw [if_neg h]
    congr 1
    rw [Bool.eq_iff_iff]
    simp [h]
theorem rd_last (l : List S32) (h : 1 ≤ l.length) : rd_T32 l ((l.length : Int) - 1) = l.getD (l.length - 1) z32 := by
  rw [rd_T32, show ((l.length : Int) - 1).toNat = l.length - 1 by omega]
theorem spec_BodyOk_ev (l : List S32) (c : Int) (hl : l.length ≤ 1048576) : Ev (fun k => spec_BodyOk.f k l c) (bodyOk l c) := by
  refine all_loop (L := fun j k => spec_BodyOk.l0 k l c (l.length : Int) (j : Int)) l (insIn (l.length : Int) c) ?_ (fun j hj hp r ih => ?_) (fun j hj hp => ?_)
  · refine Ev.one fun k => ?_
    simp only [spec_BodyOk.l0, spec_l1In_eq, Option.bind_some]
    rw [if_neg (by omega)]
    by_cases h1 : inn (l.length : Int) 1 24 = true
    · have h1' : 1 ≤ (l.length : Int) := by simp only [inn, decide_eq_true_eq] at h1; exact h1.1
      by_cases h2 : inn c 0 3 = true
      · rw [if_pos h1, if_pos h2, wrap_in (by omega) (by omega), if_pos (by omega), if_pos (by omega), rd_last l (by omega), last_ok, h1, h2]
        rfl
      · rw [if_pos h1, if_neg h2, h1, show inn c 0 3 = false by simpa using h2]
        rfl
    · rw [if_neg h1, show inn (l.length : Int) 1 24 = false by simpa using h1]
      rfl
  · refine Ev.step (fun k => by simp only [spec_BodyOk.l0]; rw [if_pos (by omega), if_pos (by omega), if_pos (by omega), rd_ins l j hj]) (Ev.bind (spec_InsOk_ev _ _ _ _ _ _ _) ?_)
    refine Ev.ite_pos hp ?_
    rw [wrapS hj (by omega)]
    exact ih
  · refine Ev.step (fun k => by simp only [spec_BodyOk.l0]; rw [if_pos (by omega), if_pos (by omega), if_pos (by omega), rd_ins l j hj]) (Ev.bind (spec_InsOk_ev _ _ _ _ _ _ _) ?_)
    exact Ev.ite_neg (fun e => by have e' : insIn (l.length : Int) c l[j] = true := e; rw [hp] at e'; cases e') (Ev.now _)
theorem impl_BodyOk_ev (l : List S32) (c : Int) (hl : l.length ≤ 1048576) : Ev (fun k => impl_BodyOk.f k l c) (bodyOk l c) := by
  simp only [impl_BodyOk.f, impl_within_eq, Option.bind_some]
  by_cases h2 : inn c 0 3 = true
  · have h2' : 0 ≤ c ∧ c ≤ 3 := by simpa [inn] using h2
    refine Ev.ite_pos h2 ?_
    by_cases h1 : inn (l.length : Int) 1 24 = true
    · have h1' : 1 ≤ (l.length : Int) := by simp only [inn, decide_eq_true_eq] at h1; exact h1.1
      rw [h1]
      refine Ev.step (fun k => by rw [impl_BodyOk.j0, if_neg (by simp)]) ?_
      refine Ev.val (r := l.all (insIn (l.length : Int) c) && lastOk l) (by unfold bodyOk; rw [h1, h2]; simp) ?_
      refine all_loop (L := fun j k => impl_BodyOk.l0 k l c l (l.length : Int) (j : Int)) l (insIn (l.length : Int) c) ?_ (fun j hj hp r ih => ?_) (fun j hj hp => ?_)
      · refine Ev.one fun k => ?_
        simp only [impl_BodyOk.l0]
        rw [if_neg (by omega), wrap_in (by omega) (by omega), if_pos (by omega), if_pos (by omega), rd_last l (by omega), last_ok]
      · refine Ev.step (fun k => by simp only [impl_BodyOk.l0]; rw [if_pos (by omega), if_pos (by omega), if_pos (by omega), rd_ins l j hj]) (Ev.bind (impl_InsOk_ev _ _ _ _ _ _ _ (by omega) (by omega)) ?_)
        refine Ev.ite_pos hp ?_
        rw [wrapS hj (by omega)]
        exact ih
      · refine Ev.step (fun k => by simp only [impl_BodyOk.l0]; rw [if_pos (by omega), if_pos (by omega), if_pos (by omega), rd_ins l j hj]) (Ev.bind (impl_InsOk_ev _ _ _ _ _ _ _ (by omega) (by omega)) ?_)
        exact Ev.ite_neg (fun e => by have e' : insIn (l.length : Int) c l[j] = true := e; rw [hp] at e'; cases e') (Ev.now _)
    · have h1' : inn (l.length : Int) 1 24 = false := by simpa using h1
      rw [h1']
      refine Ev.one fun k => ?_
      rw [impl_BodyOk.j0, if_pos (by simp), bodyOk, h1']
      simp
  · have h2' : inn c 0 3 = false := by simpa using h2
    refine Ev.ite_neg h2 ?_
    refine Ev.one fun k => ?_
    rw [impl_BodyOk.j0, if_pos rfl, bodyOk, h2']
    simp
def capOk (c : Int) : Bool := inn c 1 4
def progOk (cs : List Int) (bs : List (List S32)) : Bool := cs.all capOk && (bs.all (fun b => bodyOk b (cs.length : Int)) && (decide ((cs.length : Int) ≤ 3) && inn (bs.length : Int) 1 4))
theorem rd_body (m : List (List S32)) (j : Nat) (h : j < m.length) : rd_L6 m (j : Int) = m[j] := by simp [rd_L6, List.getD_eq_getElem?_getD, h]
theorem impl_capsOk_ev (l : List Int) (h : l.length ≤ 9223372036854775807) : Ev (fun k => impl_capsOk.f k l) (l.all capOk) := by
  have key := count_up (L := fun j k => impl_capsOk.l0 k l (l.length : Int) (j : Int)) (R := fun j => allFrom capOk l j) (n := l.length)
    (Ev.one fun k => by simp [impl_capsOk.l0, allFrom_end])
    (fun j hj ih => by
      by_cases e : capOk l[j] = true
      · exact Ev.step (fun k => by
          simp only [impl_capsOk.l0]
          rw [if_pos (by omega), if_pos (by omega), if_pos (by omega), rd_get hj, impl_within_eq, Option.bind_some, show inn l[j] 1 4 = true from e, if_pos rfl, wrapS hj (by omega)]) (by rw [allFrom_step hj, e, Bool.true_and]; exact ih)
      · refine Ev.one fun k => ?_
        simp only [impl_capsOk.l0]
        rw [if_pos (by omega), if_pos (by omega), if_pos (by omega), rd_get hj, impl_within_eq, Option.bind_some, if_neg (show ¬ inn l[j] 1 4 = true from e), allFrom_step hj]
        simp [e])
  exact key 0 (Nat.zero_le _)
theorem spec_ProgOk_ev (cs : List Int) (bs : List (List S32)) (hc : cs.length ≤ 1048576) (hb : bs.length ≤ 1048576) (hbs : ∀ b ∈ bs, b.length ≤ 1048576) : Ev (fun k => spec_ProgOk.f k cs bs) (progOk cs bs) := by
  refine all_loop (L := fun j k => spec_ProgOk.l0 k (j : Int) cs bs) cs capOk ?_ (fun j hj hp r ih => ?_) (fun j hj hp => ?_)
  · refine Ev.step (f := fun k => spec_ProgOk.l1 k 0 cs bs) (fun k => by simp only [spec_ProgOk.l0]; rw [if_neg (by omega)]) ?_
    refine all_loop (L := fun j k => spec_ProgOk.l1 k (j : Int) cs bs) bs (fun b => bodyOk b (cs.length : Int)) ?_ (fun j hj hp r ih => ?_) (fun j hj hp => ?_)
    · refine Ev.one fun k => ?_
      simp only [spec_ProgOk.l1, spec_l1In_eq, Option.bind_some]
      rw [if_neg (by omega)]
      by_cases h : (cs.length : Int) ≤ 3
      · rw [if_pos h, decide_eq_true h, Bool.true_and]
      · rw [if_neg h, decide_eq_false h, Bool.false_and]
    · refine Ev.step (fun k => by simp only [spec_ProgOk.l1]; rw [if_pos (by omega), if_pos (by omega), rd_body bs j hj]) (Ev.bind (spec_BodyOk_ev _ _ (hbs _ (List.getElem_mem hj))) ?_)
      refine Ev.ite_pos hp ?_
      rw [wrapS hj (by omega)]
      exact ih
    · refine Ev.step (fun k => by simp only [spec_ProgOk.l1]; rw [if_pos (by omega), if_pos (by omega), rd_body bs j hj]) (Ev.bind (spec_BodyOk_ev _ _ (hbs _ (List.getElem_mem hj))) ?_)
      exact Ev.ite_neg (by rw [hp]; simp) (Ev.now _)
  · refine Ev.step (fun k => by simp only [spec_ProgOk.l0, spec_l1In_eq, Option.bind_some]; rw [if_pos (by omega), if_pos (by omega), rd_get hj, if_pos (show inn cs[j] 1 4 = true from hp), wrapS hj (by omega)]) ih
  · refine Ev.one fun k => ?_
    simp only [spec_ProgOk.l0, spec_l1In_eq, Option.bind_some]
    rw [if_pos (by omega), if_pos (by omega), rd_get hj, if_neg (fun e => by have e' : capOk cs[j] = true := e; rw [hp] at e'; cases e')]
theorem impl_ProgOk_ev (cs : List Int) (bs : List (List S32)) (hc : cs.length ≤ 1048576) (hb : bs.length ≤ 1048576) (hbs : ∀ b ∈ bs, b.length ≤ 1048576) : Ev (fun k => impl_ProgOk.f k cs bs) (progOk cs bs) := by
  refine Ev.val (r := bs.all (fun b => bodyOk b (cs.length : Int)) && (decide ((cs.length : Int) ≤ 3) && (cs.all capOk && inn (bs.length : Int) 1 4))) (by
    unfold progOk
    cases cs.all capOk <;> cases bs.all (fun b => bodyOk b (cs.length : Int)) <;> cases decide ((cs.length : Int) ≤ 3) <;> rfl) ?_
  refine all_loop (L := fun j k => impl_ProgOk.l0 k bs (bs.length : Int) (j : Int) cs bs) bs (fun b => bodyOk b (cs.length : Int)) ?_ (fun j hj hp r ih => ?_) (fun j hj hp => ?_)
  · by_cases h : (cs.length : Int) ≤ 3
    · refine Ev.step (fun k => by simp only [impl_ProgOk.l0, impl_within_eq, Option.bind_some]; rw [if_neg (by omega), if_pos h]) (Ev.bind (impl_capsOk_ev cs (by omega)) ?_)
      rw [decide_eq_true h, Bool.true_and]
      by_cases hp : cs.all capOk = true
      · rw [hp]
        exact Ev.ite_pos rfl (Ev.now _)
      · rw [show cs.all capOk = false by simpa using hp]
        exact Ev.ite_neg (by simp) (Ev.now _)
    · refine Ev.one fun k => ?_
      simp only [impl_ProgOk.l0]
      rw [if_neg (by omega), if_neg h, decide_eq_false h, Bool.false_and]
  · refine Ev.step (fun k => by simp only [impl_ProgOk.l0]; rw [if_pos (by omega), if_pos (by omega), if_pos (by omega), rd_body bs j hj]) (Ev.bind (impl_BodyOk_ev _ _ (hbs _ (List.getElem_mem hj))) ?_)
    refine Ev.ite_pos hp ?_
    rw [wrapS hj (by omega)]
    exact ih
  · refine Ev.step (fun k => by simp only [impl_ProgOk.l0]; rw [if_pos (by omega), if_pos (by omega), if_pos (by omega), rd_body bs j hj]) (Ev.bind (impl_BodyOk_ev _ _ (hbs _ (List.getElem_mem hj))) ?_)
    exact Ev.ite_neg (by rw [hp]; simp) (Ev.now _)
theorem bodies_small (xs : List (List S30)) (h : xs.length + total wlInsS xs ≤ 1048576) : (xs.map cvInsS).length ≤ 1048576 ∧ ∀ b ∈ xs.map cvInsS, b.length ≤ 1048576 := by
  refine ⟨by simp; omega, fun c hc => ?_⟩
  obtain ⟨y, hy, rfl⟩ := List.mem_map.1 hc
  have h1 := total_mem wlInsS hy
  have h2 : wlInsS y = y.length := rfl
  simp [cvInsS]
  omega
theorem bodies_eq (xs : List (List S30)) (h : xs.length + total wlInsS xs ≤ 1048576) : (xs.map cvInsS).length + total wiInsS (xs.map cvInsS) ≤ 1048576 := by
  rw [List.length_map, total_map wlInsS wiInsS cvInsS w_cvInsS]
  exact h
def num (n : Int) : ByteArray := ⟨(Lib.itoa n).toArray⟩
def In64 (n : Int) : Prop := -9223372036854775808 ≤ n ∧ n ≤ 9223372036854775807
theorem num_size {n : Int} (h : In64 n) : (num n).size ≤ 21 := by
  show (Lib.itoa n).toArray.size ≤ 21
  rw [List.size_toArray]
  exact Lib.itoa_length_le n h.1 h.2
theorem impl_digits_eq {n : Int} (h : In64 n) : impl_digits.f n = some (num n) := if_pos h
theorem ba_append (a b : List UInt8) : (⟨a.toArray⟩ : ByteArray) ++ ⟨b.toArray⟩ = ⟨(a ++ b).toArray⟩ := by
  apply ByteArray.ext
  rw [ByteArray.data_append]
  simp
def dd (u : Nat) : List UInt8 := if u = 0 then [] else Lib.decDigits u
theorem dd_step {u : Nat} (h : u ≠ 0) : dd u = dd (u / 10) ++ [UInt8.ofNat (48 + u % 10)] := by
  unfold dd
  rw [if_neg h]
  by_cases c : u < 10
  · rw [if_pos (by omega), Lib.decDigits, dif_pos c, Nat.mod_eq_of_lt c]
    rfl
  · rw [if_neg (by omega), Lib.decDigits, dif_neg c]
theorem dd_length : ∀ {k u : Nat}, u < 10 ^ k → (dd u).length ≤ k
  | 0, u, h => by
    obtain rfl : u = 0 := by simpa using h
    simp [dd]
  | k + 1, u, h => by
    by_cases c : u = 0
    · subst c; simp [dd]
    · rw [dd_step c, List.length_append, List.length_singleton]
      have := dd_length (k := k) (u := u / 10) (by rw [Nat.pow_succ] at h; omega)
      omega
theorem one_char (d : Nat) (h : d < 10) : strOfNums [(48 + (d : Int)) % 256] = ⟨[UInt8.ofNat (48 + d)].toArray⟩ := by
  unfold strOfNums
  rw [List.map_cons, List.map_nil, show ((48 + (d : Int)) % 256).toNat = 48 + d by omega]
theorem digits_loop : ∀ (u : Nat) (x : Int) (neg : Bool) (s : ByteArray), x.natAbs = u → In64 x → s.size + (dd u).length ≤ 100 → Ev (fun k => spec_l2Digits.l0 k x neg s) ((if neg = true then (⟨#[45]⟩ : ByteArray) else ByteArray.empty) ++ (⟨(dd u).toArray⟩ ++ s)) := by
  intro u
  induction u using Nat.strongRecOn with
  | ind u ih =>
    intro x neg s hx hr hs
    by_cases h0 : x = 0
    · subst h0
      obtain rfl : u = 0 := by simpa using hx.symm
      have e0 : (⟨(dd 0).toArray⟩ : ByteArray) ++ s = s := ByteArray.empty_append
      rw [e0]
      refine Ev.step (fun k => by rw [spec_l2Digits.l0]) ?_
      refine Ev.ite_pos rfl ?_
      cases neg with
      | true => exact Ev.ite_pos rfl (Ev.ite_pos (by omega) (Ev.now _))
      | false =>
        refine Ev.ite_neg (by simp) ?_
        rw [if_neg (by simp), ByteArray.empty_append]
        exact Ev.now _
    · have hu : u ≠ 0 := by omega
      have hd : (dd u).length = (dd (u / 10)).length + 1 := by rw [dd_step hu]; simp
      have hsz : (strOfNums [(48 + ((u % 10 : Nat) : Int)) % 256]).size = 1 := by rw [one_char _ (by omega)]; rfl
      have next : ∀ y : Int, y.natAbs = u / 10 → In64 y → Ev (fun k => spec_l2Digits.l0 k y neg (strOfNums [(48 + ((u % 10 : Nat) : Int)) % 256] ++ s)) ((if neg = true then (⟨#[45]⟩ : ByteArray) else ByteArray.empty) ++ (⟨(dd u).toArray⟩ ++ s)) := by
        intro y hy hry
        refine Ev.val ?_ (ih (u / 10) (by omega) y neg _ hy hry (by rw [ByteArray.size_append, hsz]; omega))
        rw [one_char _ (by omega), dd_step hu, ← ba_append, ByteArray.append_assoc]
      refine Ev.step (fun k => by rw [spec_l2Digits.l0]) ?_
      refine Ev.ite_neg h0 ?_
      simp only [Option.bind_some]
      unfold In64 at hr
      rcases Int.le_total 0 x with hp | hp
      · obtain rfl : x = (u : Int) := by omega
        have em : Int.tmod (u : Int) 10 = ((u % 10 : Nat) : Int) := by rw [Int.tmod_eq_emod_of_nonneg (by omega)]; omega
        have ed : Int.tdiv (u : Int) 10 = ((u / 10 : Nat) : Int) := by rw [Int.tdiv_eq_ediv_of_nonneg (by omega)]; omega
        rw [em, ed]
        refine Ev.ite_neg (by omega) ?_
        rw [wrap_in (n := 48 + ((u % 10 : Nat) : Int)) (by omega) (by omega), wrap_in (n := ((u / 10 : Nat) : Int)) (by omega) (by omega)]
        refine Ev.ite_pos (by rw [hsz]; omega) ?_
        exact next _ (by omega) ⟨by omega, by omega⟩
      · obtain ⟨v, hv⟩ : ∃ v : Nat, v = u := ⟨u, rfl⟩
        obtain rfl : x = -(u : Int) := by omega
        have em : Int.tmod (-(u : Int)) 10 = -((u % 10 : Nat) : Int) := by rw [Int.neg_tmod, Int.tmod_eq_emod_of_nonneg (by omega)]; omega
        have ed : Int.tdiv (-(u : Int)) 10 = -((u / 10 : Nat) : Int) := by rw [Int.neg_tdiv, Int.tdiv_eq_ediv_of_nonneg (by omega)]; omega
        rw [em, ed, Int.neg_neg]
        have e3 : wrap64 (-((u / 10 : Nat) : Int)) = -((u / 10 : Nat) : Int) := wrap_in (by omega) (by omega)
        by_cases hz : -((u % 10 : Nat) : Int) < 0
        · refine Ev.ite_pos hz ?_
          rw [wrap_in (n := ((u % 10 : Nat) : Int)) (by omega) (by omega), wrap_in (n := 48 + ((u % 10 : Nat) : Int)) (by omega) (by omega), e3]
          refine Ev.ite_pos (by rw [hsz]; omega) ?_
          exact next _ (by omega) ⟨by omega, by omega⟩
        · refine Ev.ite_neg hz ?_
          have e0 : ((u % 10 : Nat) : Int) = 0 := by omega
          rw [show -((u % 10 : Nat) : Int) = ((u % 10 : Nat) : Int) by omega, wrap_in (n := 48 + ((u % 10 : Nat) : Int)) (by omega) (by omega), e3]
          refine Ev.ite_pos (by rw [hsz]; omega) ?_
          exact next _ (by omega) ⟨by omega, by omega⟩
theorem spec_l2Digits_ev {n : Int} (h : In64 n) : Ev (fun k => spec_l2Digits.f k n) (num n) := by
  simp only [spec_l2Digits.f]
  by_cases h0 : n = 0
  · subst h0
    refine Ev.ite_pos rfl ?_
    refine Ev.val (r := (⟨#[48]⟩ : ByteArray)) ?_ (Ev.now _)
    unfold num Lib.itoa
    rw [if_neg (by omega), Int.toNat_zero, Lib.decDigits, dif_pos (by omega)]
    rfl
  · refine Ev.ite_neg h0 ?_
    have hd : (dd n.natAbs).length ≤ 19 := dd_length (by unfold In64 at h; omega)
    refine Ev.val ?_ (digits_loop n.natAbs n (decide (n < 0)) (⟨#[]⟩ : ByteArray) rfl h (by show 0 + _ ≤ 100; omega))
    have e : ∀ x : ByteArray, x ++ (⟨#[]⟩ : ByteArray) = x := fun x => ByteArray.append_empty
    rw [e]
    unfold num Lib.itoa dd
    rw [if_neg (c := n.natAbs = 0) (by omega)]
    by_cases hn : n < 0
    · rw [if_pos (by simpa using hn), if_pos hn]
      exact ba_append [45] _
    · rw [if_neg (by simpa using hn), if_neg hn, ByteArray.empty_append, show n.toNat = n.natAbs by omega]
def wordsOf (b : ByteArray) : List Int → ByteArray
  | [] => b
  | n :: l => wordsOf (b ++ ((⟨#[32]⟩ : ByteArray) ++ num n)) l
theorem wordsOf_end : ∀ (l : List Int) (b : ByteArray) (n : Int), wordsOf b (l ++ [n]) = wordsOf b l ++ ((⟨#[32]⟩ : ByteArray) ++ num n)
  | [], _, _ => rfl
  | _ :: l, _, n => wordsOf_end l _ n
theorem sp_size {n : Int} (h : In64 n) : ((⟨#[32]⟩ : ByteArray) ++ num n).size ≤ 22 := by
  rw [ByteArray.size_append]
  have := num_size h
  have e : (⟨#[32]⟩ : ByteArray).size = 1 := rfl
  omega
theorem wordsOf_size : ∀ (l : List Int) (b : ByteArray), (∀ n ∈ l, In64 n) → (wordsOf b l).size ≤ b.size + 22 * l.length
  | [], b, _ => by simp [wordsOf]
  | n :: l, b, h => by
    have h1 := wordsOf_size l (b ++ ((⟨#[32]⟩ : ByteArray) ++ num n)) (fun m hm => h m (List.mem_cons_of_mem _ hm))
    have h2 := sp_size (h n (List.mem_cons_self ..))
    rw [wordsOf, List.length_cons]
    rw [ByteArray.size_append] at h1
    omega
theorem wordsOf_take {l : List Int} {b : ByteArray} {j : Nat} (h : j < l.length) : wordsOf b (l.take (j + 1)) = wordsOf b (l.take j) ++ ((⟨#[32]⟩ : ByteArray) ++ num l[j]) := by
  rw [List.take_succ_eq_append_getElem h, wordsOf_end]
theorem take_size {l : List Int} {b : ByteArray} {j : Nat} (h : j < l.length) (hl : ∀ n ∈ l, In64 n) (hb : b.size + 22 * l.length ≤ 1000000000) : (wordsOf b (l.take j)).size ≤ 1000000000 - 22 := by
  have := wordsOf_size (l.take j) b (fun n hn => hl n (List.mem_of_mem_take hn))
  rw [List.length_take] at this
  omega
theorem impl_words_ev (b : ByteArray) (l : List Int) (hl : ∀ n ∈ l, In64 n) (hb : b.size + 22 * l.length ≤ 1000000000) : Ev (fun k => impl_words.f k b l) (wordsOf b l) := by
  have key := count_up (L := fun j k => impl_words.l0 k (wordsOf b (l.take j)) l (l.length : Int) (j : Int)) (R := fun _ => wordsOf b l) (n := l.length)
    (Ev.one fun k => by rw [impl_words.l0, if_neg (by omega), List.take_length])
    (fun j hj ih => by
      have h1 := hl l[j] (List.getElem_mem hj)
      have h2 := sp_size h1
      have h3 := num_size h1
      have h4 := take_size hj hl hb
      exact Ev.step (fun k => by rw [impl_words.l0, if_pos (by omega), if_pos (by omega), if_pos (by omega), rd_get hj, impl_digits_eq h1, Option.bind_some, if_pos (by omega), if_pos (by omega), ← wordsOf_take hj, wrapS hj (by omega)]) ih)
  exact key 0 (Nat.zero_le _)
def nameOf (op : Int) : ByteArray := ([(⟨#[]⟩ : ByteArray), (⟨#[115, 101, 116]⟩ : ByteArray), (⟨#[97, 100, 100]⟩ : ByteArray), (⟨#[115, 117, 98]⟩ : ByteArray), (⟨#[108, 101, 115, 115]⟩ : ByteArray), (⟨#[115, 101, 110, 100]⟩ : ByteArray), (⟨#[116, 97, 107, 101]⟩ : ByteArray), (⟨#[116, 114, 121, 115, 101, 110, 100]⟩ : ByteArray), (⟨#[116, 114, 121, 116, 97, 107, 101]⟩ : ByteArray), (⟨#[99, 108, 111, 115, 101]⟩ : ByteArray), (⟨#[112, 114, 105, 110, 116]⟩ : ByteArray), (⟨#[106, 117, 109, 112]⟩ : ByteArray), (⟨#[122, 101, 114, 111]⟩ : ByteArray), (⟨#[101, 110, 100]⟩ : ByteArray)] : List ByteArray).getD op.toNat ByteArray.empty
def numsOf (op r a b n : Int) : List Int :=
  if op = 1 then [r, n] else if op = 2 ∨ op = 3 ∨ op = 4 then [r, a, b] else if op = 5 then [n, a] else if op = 6 ∨ op = 8 then [r, b, n] else if op = 7 then [r, n, a] else if op = 9 ∨ op = 11 then [n] else if op = 10 then [a] else if op = 12 then [a, n] else []
def insText (op r a b n : Int) : ByteArray := if insOk op r a b n 24 3 = true then wordsOf (nameOf op) (numsOf op r a b n) else (⟨#[]⟩ : ByteArray)
theorem nameOf_size (op : Int) (h0 : 1 ≤ op) (h1 : op ≤ 13) : (nameOf op).size ≤ 8 := by
  rcases op_cases op with rfl | rfl | rfl | rfl | rfl | rfl | rfl | rfl | rfl | rfl | rfl | rfl | rfl | h
  all_goals first
    | (show _ ≤ 8; decide)
    | omega
theorem numsOf_length (op r a b n : Int) : (numsOf op r a b n).length ≤ 3 := by
  unfold numsOf
  repeat' split
  all_goals simp
theorem ins_in {op r a b n : Int} (h : insOk op r a b n 24 3 = true) : (1 ≤ op ∧ op ≤ 13) ∧ In64 r ∧ In64 a ∧ In64 b ∧ In64 n := by
  unfold insOk at h
  rw [decide_eq_true_eq] at h
  obtain ⟨h1, h2, h3, h4, h5⟩ := h
  unfold In64
  rcases h5 with h | h | h | h | h | h | h | h | h | h <;> omega
theorem numsOf_in {op r a b n : Int} (h : insOk op r a b n 24 3 = true) : ∀ m ∈ numsOf op r a b n, In64 m := by
  obtain ⟨_, hr, ha, hb, hn⟩ := ins_in h
  intro m hm
  unfold numsOf at hm
  repeat' split at hm
  all_goals
    simp only [List.mem_cons, List.not_mem_nil, or_false] at hm
    try (rcases hm with rfl | rfl | rfl <;> assumption)
    try (rcases hm with rfl | rfl <;> assumption)
    try (subst hm; assumption)
theorem spec_l2Nums_ev (op r a b n : Int) : Ev (fun k => spec_l2Nums.f k op r a b n) (numsOf op r a b n) := by
  refine ⟨4, fun k hk => ?_⟩
  obtain ⟨m, rfl⟩ : ∃ m, k = m + 4 := ⟨k - 4, by omega⟩
  simp only [spec_l2Nums.f, spec_l2Nums.j0, spec_l2Nums.j1, spec_l2Nums.j2, numsOf]
  rcases op_cases op with rfl | rfl | rfl | rfl | rfl | rfl | rfl | rfl | rfl | rfl | rfl | rfl | rfl | h
  case inr.inr.inr.inr.inr.inr.inr.inr.inr.inr.inr.inr.inr =>
    have e : ∀ c : Int, 1 ≤ c → c ≤ 13 → ¬ op = c := fun c h0 h1 => by omega
    simp [e 1 (by omega) (by omega), e 2 (by omega) (by omega), e 3 (by omega) (by omega), e 4 (by omega) (by omega), e 5 (by omega) (by omega), e 6 (by omega) (by omega), e 7 (by omega) (by omega), e 8 (by omega) (by omega), e 9 (by omega) (by omega), e 10 (by omega) (by omega), e 11 (by omega) (by omega), e 12 (by omega) (by omega)]
  all_goals simp
theorem spec_InsText_l0 (b : ByteArray) (l : List Int) (hl : ∀ n ∈ l, In64 n) (hb : b.size + 22 * l.length ≤ 1000000000) : Ev (fun k => spec_InsText.l0 k b l 0) (wordsOf b l) := by
  have key := count_up (L := fun j k => spec_InsText.l0 k (wordsOf b (l.take j)) l (j : Int)) (R := fun _ => wordsOf b l) (n := l.length)
    (Ev.one fun k => by rw [spec_InsText.l0, if_neg (by omega), List.take_length])
    (fun j hj ih => by
      have h1 := hl l[j] (List.getElem_mem hj)
      have h2 := sp_size h1
      have h3 := num_size h1
      have h4 := take_size hj hl hb
      have h5 : (wordsOf b (l.take j) ++ (⟨#[32]⟩ : ByteArray)).size = (wordsOf b (l.take j)).size + 1 := by rw [ByteArray.size_append]; rfl
      refine Ev.step (fun k => by rw [spec_InsText.l0, if_pos (by omega), if_pos (by omega), if_pos (by omega), rd_get hj]) (Ev.bind (spec_l2Digits_ev h1) ?_)
      refine Ev.ite_pos (by omega) ?_
      rw [ByteArray.append_assoc, ← wordsOf_take hj, wrapS hj (by omega)]
      exact ih)
  exact key 0 (Nat.zero_le _)
theorem spec_InsText_ev (op r a b n : Int) : Ev (fun k => spec_InsText.f k op r a b n) (insText op r a b n) := by
  simp only [spec_InsText.f]
  refine Ev.bind (spec_InsOk_ev ..) ?_
  unfold insText
  by_cases h : insOk op r a b n 24 3 = true
  · refine Ev.ite_pos h ?_
    rw [if_pos h]
    obtain ⟨⟨h0, h1⟩, _⟩ := ins_in h
    simp only [spec_l2Names.f, Option.bind_some]
    refine Ev.ite_pos (by omega) (Ev.ite_pos (by simp; omega) ?_)
    refine Ev.bind (spec_l2Nums_ev ..) ?_
    exact spec_InsText_l0 (nameOf op) _ (numsOf_in h) (by have := nameOf_size op h0 h1; have := numsOf_length op r a b n; omega)
  · refine Ev.ite_neg h ?_
    rw [if_neg h]
    exact Ev.now _
theorem impl_InsText_ev (op r a b n : Int) : Ev (fun k => impl_InsText.f k op r a b n) (insText op r a b n) := by
  simp only [impl_InsText.f]
  refine Ev.bind (impl_InsOk_ev _ _ _ _ _ _ _ (by omega) (by omega)) ?_
  unfold insText
  by_cases h : insOk op r a b n 24 3 = true
  · refine Ev.ite_pos h ?_
    rw [if_pos h]
    obtain ⟨⟨h0, h1⟩, _⟩ := ins_in h
    have hn := numsOf_in h
    have hs := nameOf_size op h0 h1
    have hl := numsOf_length op r a b n
    have go : Ev (fun k => (impl_words.f k (nameOf op) (numsOf op r a b n)).bind fun t => some t) (wordsOf (nameOf op) (numsOf op r a b n)) := Ev.bind (impl_words_ev _ _ hn (by omega)) (Ev.now _)
    clear hn hs hl h
    rcases op_cases op with rfl | rfl | rfl | rfl | rfl | rfl | rfl | rfl | rfl | rfl | rfl | rfl | rfl | h
    case inr.inr.inr.inr.inr.inr.inr.inr.inr.inr.inr.inr.inl => exact Ev.now _
    case inr.inr.inr.inr.inr.inr.inr.inr.inr.inr.inr.inr.inr => omega
    all_goals exact go
  · refine Ev.ite_neg h ?_
    rw [if_neg h]
    exact Ev.now _
def insLines (s : ByteArray) : List S32 → ByteArray
  | [] => s
  | x :: l => insLines (s ++ (insText x.f0 x.f1 x.f2 x.f3 x.f4 ++ (⟨#[10]⟩ : ByteArray))) l
def bodyLines (s : ByteArray) : List (List S32) → ByteArray
  | [] => s
  | b :: bs => bodyLines (insLines (s ++ (⟨#[98, 111, 100, 121, 10]⟩ : ByteArray)) b) bs
def progText (cs : List Int) (bs : List (List S32)) : ByteArray := if progOk cs bs = true then bodyLines (wordsOf (⟨#[99, 97, 112, 115]⟩ : ByteArray) cs ++ (⟨#[10]⟩ : ByteArray)) bs else (⟨#[]⟩ : ByteArray)
theorem insText_size (op r a b n : Int) : (insText op r a b n).size ≤ 74 := by
  unfold insText
  by_cases h : insOk op r a b n 24 3 = true
  · rw [if_pos h]
    obtain ⟨⟨h0, h1⟩, _⟩ := ins_in h
    have h2 := wordsOf_size (numsOf op r a b n) (nameOf op) (numsOf_in h)
    have h3 := nameOf_size op h0 h1
    have h4 := numsOf_length op r a b n
    omega
  · rw [if_neg h]
    show 0 ≤ 74
    omega
theorem insLine_size (x : S32) : (insText x.f0 x.f1 x.f2 x.f3 x.f4 ++ (⟨#[10]⟩ : ByteArray)).size = (insText x.f0 x.f1 x.f2 x.f3 x.f4).size + 1 := by
  rw [ByteArray.size_append]; rfl
theorem insLines_size : ∀ (l : List S32) (s : ByteArray), (insLines s l).size ≤ s.size + 75 * l.length
  | [], s => by simp [insLines]
  | x :: l, s => by
    have h1 := insLines_size l (s ++ (insText x.f0 x.f1 x.f2 x.f3 x.f4 ++ (⟨#[10]⟩ : ByteArray)))
    have h2 := insText_size x.f0 x.f1 x.f2 x.f3 x.f4
    rw [ByteArray.size_append, insLine_size] at h1
    rw [insLines, List.length_cons]
    omega
theorem body_size (s : ByteArray) : (s ++ (⟨#[98, 111, 100, 121, 10]⟩ : ByteArray)).size = s.size + 5 := by rw [ByteArray.size_append]; rfl
theorem impl_ProgText_l1 (R : ByteArray) (bs : List (List S32)) (i : Int) (b : List S32) (hb : b.length ≤ 1000) : ∀ d (j : Nat) (s : ByteArray), j + d = b.length → s.size + 75 * d ≤ 1000000000 → Ev (fun k => impl_ProgText.l0 k (insLines s (b.drop j)) bs (bs.length : Int) (wrap64 (i + 1))) R → Ev (fun k => impl_ProgText.l1 k s bs (bs.length : Int) i b (b.length : Int) (j : Int)) R := by
  intro d
  induction d with
  | zero =>
    intro j s hj hs e
    obtain rfl : j = b.length := by omega
    rw [List.drop_length, insLines] at e
    exact Ev.step (fun k => by rw [impl_ProgText.l1, if_neg (by omega)]) e
  | succ d ih =>
    intro j s hj hs e
    have h : j < b.length := by omega
    rw [List.drop_eq_getElem_cons h, insLines] at e
    have h2 := insText_size b[j].f0 b[j].f1 b[j].f2 b[j].f3 b[j].f4
    have h3 := insLine_size b[j]
    refine Ev.step (fun k => by rw [impl_ProgText.l1, if_pos (by omega), if_pos (by omega), if_pos (by omega), rd_ins b j h]) (Ev.bind (impl_InsText_ev ..) ?_)
    refine Ev.ite_pos (by omega) (Ev.ite_pos (by omega) ?_)
    rw [wrapS h (by omega)]
    exact ih (j + 1) _ (by omega) (by rw [ByteArray.size_append]; omega) e
theorem impl_ProgText_l0 (bs : List (List S32)) (hn : bs.length ≤ 1000) (hb : ∀ b ∈ bs, b.length ≤ 24) : ∀ d (i : Nat) (s : ByteArray), i + d = bs.length → s.size + 2000 * d ≤ 1000000 → Ev (fun k => impl_ProgText.l0 k s bs (bs.length : Int) (i : Int)) (bodyLines s (bs.drop i)) := by
  intro d
  induction d with
  | zero =>
    intro i s hi hs
    obtain rfl : i = bs.length := by omega
    rw [List.drop_length, bodyLines]
    exact Ev.one fun k => by rw [impl_ProgText.l0, if_neg (by omega)]
  | succ d ih =>
    intro i s hi hs
    have h : i < bs.length := by omega
    have hl := hb _ (List.getElem_mem h)
    rw [List.drop_eq_getElem_cons h, bodyLines]
    refine Ev.step (fun k => by rw [impl_ProgText.l0, if_pos (by omega), if_pos (by omega), if_pos (by omega), if_pos (by omega), rd_body bs i h]) ?_
    refine impl_ProgText_l1 _ bs (i : Int) bs[i] (by omega) bs[i].length 0 _ (by omega) (by rw [body_size]; omega) ?_
    rw [wrapS h (by omega)]
    have h5 := insLines_size bs[i] (s ++ (⟨#[98, 111, 100, 121, 10]⟩ : ByteArray))
    rw [body_size] at h5
    exact ih (i + 1) _ (by omega) (by rw [List.drop_zero]; omega)
theorem spec_ProgText_l2 (R : ByteArray) (cs : List Int) (bs : List (List S32)) (i : Nat) (hi : i < bs.length) (hb : bs[i].length ≤ 1000) : ∀ d (j : Nat) (s : ByteArray), j + d = bs[i].length → s.size + 75 * d ≤ 1000000000 → Ev (fun k => spec_ProgText.l1 k (insLines s (bs[i].drop j)) (wrap64 ((i : Int) + 1)) cs bs) R → Ev (fun k => spec_ProgText.l2 k s (i : Int) (j : Int) cs bs) R := by
  intro d
  induction d with
  | zero =>
    intro j s hj hs e
    rw [show j = bs[i].length by omega, List.drop_length, insLines] at e
    exact Ev.step (fun k => by rw [spec_ProgText.l2, if_pos (by omega), if_pos (by omega), rd_body bs i hi, if_neg (by omega)]) e
  | succ d ih =>
    intro j s hj hs e
    have h : j < bs[i].length := by omega
    rw [List.drop_eq_getElem_cons h, insLines] at e
    have h2 := insText_size bs[i][j].f0 bs[i][j].f1 bs[i][j].f2 bs[i][j].f3 bs[i][j].f4
    have h3 := insLine_size bs[i][j]
    refine Ev.step (fun k => by rw [spec_ProgText.l2, if_pos (by omega), if_pos (by omega), rd_body bs i hi, if_pos (by omega), if_pos (by omega), rd_ins bs[i] j h]) (Ev.bind (spec_InsText_ev ..) ?_)
    refine Ev.ite_pos (by omega) (Ev.ite_pos (by rw [ByteArray.size_append]; omega) ?_)
    rw [wrapS h (by omega), ByteArray.append_assoc]
    exact ih (j + 1) _ (by omega) (by rw [ByteArray.size_append]; omega) e
theorem spec_ProgText_l1 (cs : List Int) (bs : List (List S32)) (hn : bs.length ≤ 1000) (hb : ∀ b ∈ bs, b.length ≤ 24) : ∀ d (i : Nat) (s : ByteArray), i + d = bs.length → s.size + 2000 * d ≤ 1000000 → Ev (fun k => spec_ProgText.l1 k s (i : Int) cs bs) (bodyLines s (bs.drop i)) := by
  intro d
  induction d with
  | zero =>
    intro i s hi hs
    obtain rfl : i = bs.length := by omega
    rw [List.drop_length, bodyLines]
    exact Ev.one fun k => by rw [spec_ProgText.l1, if_neg (by omega)]
  | succ d ih =>
    intro i s hi hs
    have h : i < bs.length := by omega
    have hl := hb _ (List.getElem_mem h)
    rw [List.drop_eq_getElem_cons h, bodyLines]
    refine Ev.step (fun k => by rw [spec_ProgText.l1, if_pos (by omega), if_pos (by omega)]) ?_
    refine spec_ProgText_l2 _ cs bs i h (by omega) bs[i].length 0 _ (by omega) (by rw [body_size]; omega) ?_
    rw [wrapS h (by omega)]
    have h5 := insLines_size bs[i] (s ++ (⟨#[98, 111, 100, 121, 10]⟩ : ByteArray))
    rw [body_size] at h5
    exact ih (i + 1) _ (by omega) (by rw [List.drop_zero]; omega)
theorem prog_in {cs : List Int} {bs : List (List S32)} (h : progOk cs bs = true) : (cs.length ≤ 3 ∧ ∀ n ∈ cs, In64 n) ∧ bs.length ≤ 4 ∧ ∀ b ∈ bs, b.length ≤ 24 := by
  unfold progOk at h
  simp only [Bool.and_eq_true, List.all_eq_true, decide_eq_true_eq] at h
  obtain ⟨h1, h2, h3, h4⟩ := h
  refine ⟨⟨by omega, fun n hn => ?_⟩, by unfold inn at h4; simp only [decide_eq_true_eq] at h4; omega, fun b hb => ?_⟩
  · have := h1 n hn
    unfold capOk inn at this
    simp only [decide_eq_true_eq] at this
    exact ⟨by omega, by omega⟩
  · have := h2 b hb
    unfold bodyOk inn at this
    simp only [Bool.and_eq_true, decide_eq_true_eq] at this
    have := this.2.1.1
    omega
theorem caps_size (cs : List Int) (hc : cs.length ≤ 3) (hi : ∀ n ∈ cs, In64 n) : (wordsOf (⟨#[99, 97, 112, 115]⟩ : ByteArray) cs).size ≤ 70 := by
  have := wordsOf_size cs (⟨#[99, 97, 112, 115]⟩ : ByteArray) hi
  have e : (⟨#[99, 97, 112, 115]⟩ : ByteArray).size = 4 := rfl
  omega
theorem nl_size (s : ByteArray) : (s ++ (⟨#[10]⟩ : ByteArray)).size = s.size + 1 := by rw [ByteArray.size_append]; rfl
theorem impl_ProgText_ev (cs : List Int) (bs : List (List S32)) (hc : cs.length ≤ 1048576) (hb : bs.length ≤ 1048576) (hbs : ∀ b ∈ bs, b.length ≤ 1048576) : Ev (fun k => impl_ProgText.f k cs bs) (progText cs bs) := by
  simp only [impl_ProgText.f]
  refine Ev.bind (impl_ProgOk_ev cs bs hc hb hbs) ?_
  unfold progText
  by_cases h : progOk cs bs = true
  · refine Ev.ite_pos h ?_
    rw [if_pos h]
    obtain ⟨⟨l1, hi⟩, l2, hl⟩ := prog_in h
    have e : (⟨#[99, 97, 112, 115]⟩ : ByteArray).size = 4 := rfl
    have h3 := caps_size cs l1 hi
    refine Ev.bind (impl_words_ev _ cs hi (by omega)) ?_
    refine Ev.ite_pos (by omega) ?_
    exact impl_ProgText_l0 bs (by omega) hl bs.length 0 _ (by omega) (by rw [nl_size]; omega)
  · refine Ev.ite_neg h ?_
    rw [if_neg h]
    exact Ev.now _
theorem spec_ProgText_ev (cs : List Int) (bs : List (List S32)) (hc : cs.length ≤ 1048576) (hb : bs.length ≤ 1048576) (hbs : ∀ b ∈ bs, b.length ≤ 1048576) : Ev (fun k => spec_ProgText.f k cs bs) (progText cs bs) := by
  simp only [spec_ProgText.f]
  refine Ev.bind (spec_ProgOk_ev cs bs hc hb hbs) ?_
  unfold progText
  by_cases h : progOk cs bs = true
  · refine Ev.ite_pos h ?_
    rw [if_pos h]
    obtain ⟨⟨l1, hi⟩, l2, hl⟩ := prog_in h
    have e : (⟨#[99, 97, 112, 115]⟩ : ByteArray).size = 4 := rfl
    have h3 := caps_size cs l1 hi
    have key := count_up (L := fun j k => spec_ProgText.l0 k (wordsOf (⟨#[99, 97, 112, 115]⟩ : ByteArray) (cs.take j)) (j : Int) cs bs) (R := fun _ => bodyLines (wordsOf (⟨#[99, 97, 112, 115]⟩ : ByteArray) cs ++ (⟨#[10]⟩ : ByteArray)) bs) (n := cs.length)
      (by
        refine Ev.step (fun k => by rw [spec_ProgText.l0, if_neg (by omega), List.take_length, if_pos (by omega)]) ?_
        exact spec_ProgText_l1 cs bs (by omega) hl bs.length 0 _ (by omega) (by rw [nl_size]; omega))
      (fun j hj ih => by
        have h1 := hi cs[j] (List.getElem_mem hj)
        have h2 := num_size h1
        have h4 := take_size (b := (⟨#[99, 97, 112, 115]⟩ : ByteArray)) hj hi (by omega)
        have h5 : (wordsOf (⟨#[99, 97, 112, 115]⟩ : ByteArray) (cs.take j) ++ (⟨#[32]⟩ : ByteArray)).size = (wordsOf (⟨#[99, 97, 112, 115]⟩ : ByteArray) (cs.take j)).size + 1 := by rw [ByteArray.size_append]; rfl
        refine Ev.step (fun k => by rw [spec_ProgText.l0, if_pos (by omega), if_pos (by omega), if_pos (by omega), rd_get hj]) (Ev.bind (spec_l2Digits_ev h1) ?_)
        refine Ev.ite_pos (by omega) ?_
        rw [ByteArray.append_assoc, ← wordsOf_take hj, wrapS hj (by omega)]
        exact ih)
    exact key 0 (Nat.zero_le _)
  · refine Ev.ite_neg h ?_
    rw [if_neg h]
    exact Ev.now _
theorem FnExactProgText (x0_0 : (List Int)) (x0_1 : (List (List S30))) (ok0 : ((x0_0.length ≤ maxLen ∧ ∀ z ∈ x0_0, ((Lit.int .i64 z).wf = true)) ∧ (x0_1.length ≤ maxLen ∧ ∀ z ∈ x0_1, (z.length ≤ maxLen ∧ ∀ z' ∈ z, (((Lit.int .i64 z'.f0).wf = true) ∧ (((Lit.int .i64 z'.f1).wf = true) ∧ (((Lit.int .i64 z'.f2).wf = true) ∧ (((Lit.int .i64 z'.f3).wf = true) ∧ ((Lit.int .i64 z'.f4).wf = true))))))))) : ∃ k, laws_FnExactProgText.f k x0_0 x0_1 = some true := by
  refine Ev.rounds (g := fun k => laws_FnExactProgText.f k x0_0 x0_1) ?_
  simp only [laws_FnExactProgText.f]
  refine Ev.bind (szProg_ev x0_0 x0_1 1048576 (by omega) (by omega) ⟨(by have := ((ok0).1).1; unfold maxLen at this; omega), ⟨(by have := ((ok0).2).1; unfold maxLen at this; omega), fun x0_ h0_ => (by have := (((ok0).2).2 x0_ h0_).1; unfold maxLen at this; omega)⟩⟩) ?_
  by_cases h : ((x0_0.length + (x0_1.length + total wlInsS x0_1) : Nat) : Int) ≤ 1048576
  case neg => rw [left?_no h]; exact Ev.ite_pos (by omega) (Ev.now _)
  rw [left?_yes h]
  refine Ev.ite_neg (by omega) ?_
  obtain ⟨hb, hbs⟩ := bodies_small x0_1 (by omega)
  refine Ev.bind (toProg_ev x0_0 x0_1 (by omega) (by omega)) ?_
  refine Ev.bind (spec_ProgText_ev x0_0 (x0_1.map cvInsS) (by omega) hb hbs) ?_
  refine Ev.bind (toProg_ev x0_0 x0_1 (by omega) (by omega)) ?_
  refine Ev.bind (impl_ProgText_ev x0_0 (x0_1.map cvInsS) (by omega) hb hbs) ?_
  refine Ev.ite_pos rfl ?_
  refine Ev.bind (toProg_ev x0_0 x0_1 (by omega) (by omega)) ?_
  refine Ev.bind (eqProg_self x0_0 (x0_1.map cvInsS) (by omega) (bodies_eq x0_1 (by omega))) ?_
  simp only [if_true]
  exact Ev.now _
end Go.Proofs.YtkjfcmgpplapeaaDoor.Pure
namespace Go.Proofs.YtkjfcmgpplapeaaDoor.Rd
open Go.RowKit Go.Proofs.YtkjfcmgpplapeaaDoorW.PrintWords Go.ChangeShapes Go.WideShapes
set_option linter.unusedVariables false
def Opens {α : Type} (P : Program) (t : TypeId) (d : Kd α) (ok : α → Prop) : Prop :=
  ∀ (H : Type) (enc : TypeId × Value → H) (w : World) (base : Nat) (spare : Nat → Bool) (held : Bool) (fuel : Nat) (cs : List Value) (x : DataW H × List MemPlace),
    DataW.trod enc P w base spare held fuel t cs = some x → ∃ y, d.K w y cs ∧ ok y
theorem Opens.int {P : Program} {t : TypeId} {k : IntKind} (ht : P.underlying t = some (.int k)) : Opens P t (Kd.int k) (fun n => (Lit.int k n).wf = true) := by
  intro H enc w base spare held fuel cs x h
  obtain ⟨n, rfl, _, hw⟩ := DataW.trod_int ht h
  exact ⟨n, rfl, hw⟩
theorem Opens.bool {P : Program} {t : TypeId} (ht : P.underlying t = some .bool) : Opens P t Kd.bool (fun _ => True) := by
  intro H enc w base spare held fuel cs x h
  obtain ⟨n, rfl, _⟩ := DataW.trod_bool ht h
  exact ⟨n, rfl, trivial⟩
theorem Opens.string {P : Program} {t : TypeId} (ht : P.underlying t = some .string) : Opens P t Kd.string (fun s => s.size ≤ maxLen) := by
  intro H enc w base spare held fuel cs x h
  obtain ⟨n, rfl, _, hs⟩ := DataW.trod_string ht h
  exact ⟨n, rfl, hs⟩
theorem Opens.weaken {α : Type} {P : Program} {t : TypeId} {d : Kd α} {ok ok' : α → Prop} (h : Opens P t d ok) (hk : ∀ x, ok x → ok' x) : Opens P t d ok' := by
  intro H enc w base spare held fuel cs x hx
  obtain ⟨y, hy, o⟩ := h H enc w base spare held fuel cs x hx
  exact ⟨y, hy, hk y o⟩
theorem list_of {α : Type} {Q : Nat → α → Prop} : ∀ n : Nat, (∀ i, i < n → ∃ y, Q i y) → ∃ ys : List α, ys.length = n ∧ ∀ i y, ys[i]? = some y → Q i y := by
  intro n
  induction n with
  | zero => exact fun _ => ⟨[], rfl, fun i y h => by simp at h⟩
  | succ n ih =>
    intro h
    obtain ⟨ys, hl, hq⟩ := ih (fun i hi => h i (by omega))
    obtain ⟨y, hy⟩ := h n (by omega)
    refine ⟨ys ++ [y], by simp [hl], fun i z hz => ?_⟩
    rcases Nat.lt_or_ge i ys.length with hi | hi
    · rw [List.getElem?_append_left hi] at hz
      exact hq i z hz
    · rw [List.getElem?_append_right hi] at hz
      have h0 : i - ys.length = 0 := by
        have := (List.getElem?_eq_some_iff.1 hz).1
        simp at this
        omega
      rw [h0] at hz
      simp at hz
      subst hz
      have : i = n := by omega
      rw [this]
      exact hy
theorem Opens.slice {α : Type} {P : Program} {t e : TypeId} (q : Nat) {d : Kd α} {ok : α → Prop} (ht : P.underlying t = some (.slice e)) (hs : P.cellsOf e = d.sz) (he : Opens P e d ok) :
    Opens P t (Kd.slice q d) (fun xs => xs.length ≤ maxLen ∧ ∀ x ∈ xs, ok x) := by
  intro H enc w base spare held fuel cs x h
  rcases DataW.trod_slice ht h with ⟨rfl, _⟩ | ⟨a, len, cap, elems, rest, n, _, rfl, _, _, hl, hm, hlen, hel, _, _⟩
  · exact ⟨[], ⟨none, 0, rfl, Nat.le_refl _, rfl, by simp, fun hp => absurd hp (by simp)⟩, by simp, by simp⟩
  · have each : ∀ i, i < len → ∃ y, ∃ c, w.cells? base (a.add (i * d.sz)) d.sz = some c ∧ d.K w y c ∧ ok y := by
      intro i hi
      have h1 := hel i hi
      rw [List.getElem?_eq_getElem (by omega), Option.bind_eq_some_iff, hs] at h1
      obtain ⟨c, hc, hx⟩ := h1
      obtain ⟨y, hy, ho⟩ := he H enc w base spare held n c _ hx
      exact ⟨y, c, hc, hy, ho⟩
    obtain ⟨ys, hyl, hq⟩ := list_of len each
    have hm' : len ≤ 9223372036854775807 := by unfold maxLen at hm; omega
    refine ⟨ys, ⟨some a, cap, by rw [hyl], by omega, rfl, by omega, fun _ => ⟨a, rfl, fun j p hj => ?_⟩⟩, by omega, fun y hy => ?_⟩
    · obtain ⟨c, hc, hk, _⟩ := hq j p hj
      obtain ⟨_, hcl, hcell⟩ := World.cells?_some hc
      refine ⟨c, hcl, hk, fun i u hu => ?_⟩
      have hi : i < d.sz := by
        have := (List.getElem?_eq_some_iff.1 hu).1
        omega
      rw [← Addr.add_add, hcell i hi, hu]
    · obtain ⟨i, hi⟩ := List.getElem?_of_mem hy
      obtain ⟨c, _, _, ho⟩ := hq i y hi
      exact ho
def OpensAt {α : Type} (P : Program) (fs : List Field) (off : Nat) (d : Kd α) (ok : α → Prop) : Prop :=
  ∀ (H : Type) (enc : TypeId × Value → H) (w : World) (base : Nat) (spare : Nat → Bool) (held : Bool) (n : Nat) (cs : List Value), cs.length = off + d.sz →
    (∀ f ∈ fs, ∃ y, DataW.trod enc P w base spare held n f.type ((cs.drop f.offset).take (P.cellsOf f.type)) = some y) → ∃ y, d.K w y (cs.drop off) ∧ ok y
theorem OpensAt.one {α : Type} {P : Program} {f : Field} {off : Nat} {d : Kd α} {ok : α → Prop} (ho : f.offset = off) (hs : P.cellsOf f.type = d.sz) (h : Opens P f.type d ok) : OpensAt P [f] off d ok := by
  intro H enc w base spare held n cs hl hf
  obtain ⟨x, hx⟩ := hf f (by simp)
  rw [ho, hs, List.take_of_length_le (by simp; omega)] at hx
  exact h _ _ _ _ _ _ _ _ _ hx
theorem OpensAt.cons {α β : Type} {P : Program} {f : Field} {fs : List Field} {off : Nat} {a : Kd α} {b : Kd β} {oka : α → Prop} {okb : β → Prop} (ho : f.offset = off) (hs : P.cellsOf f.type = a.sz) (h : Opens P f.type a oka)
    (hr : OpensAt P fs (off + a.sz) b okb) : OpensAt P (f :: fs) off (Kd.pair a b) (fun x => oka x.1 ∧ okb x.2) := by
  intro H enc w base spare held n cs hl hf
  obtain ⟨x, hx⟩ := hf f (by simp)
  rw [ho, hs] at hx
  obtain ⟨y, hy, oy⟩ := h _ _ _ _ _ _ _ _ _ hx
  have hl' : cs.length = (off + a.sz) + b.sz := by rw [hl]; show off + (a.sz + b.sz) = _; omega
  obtain ⟨z, hz, oz⟩ := hr H enc w base spare held n cs hl' (fun g hg => hf g (by simp [hg]))
  refine ⟨(y, z), ⟨_, _, ?_, hy, hz⟩, oy, oz⟩
  rw [← List.drop_drop]
  exact (List.take_append_drop _ _).symm
theorem Opens.struct {α : Type} {P : Program} {t : TypeId} {fs : List Field} {d : Kd α} {ok : α → Prop} (ht : P.underlying t = some (.struct (List.toArray fs))) (hs : P.cellsOf t = d.sz) (h : OpensAt P fs 0 d ok) : Opens P t d ok := by
  intro H enc w base spare held fuel cs x hx
  obtain ⟨xs, n, _, _, hl, hlen, hf⟩ := DataW.trod_struct ht hx
  obtain ⟨y, hy, oy⟩ := h H enc w base spare held n cs (by omega) (fun f hm => by
    obtain ⟨i, hi⟩ := List.getElem?_of_mem hm
    have hi' : (List.toArray fs)[i]? = some f := by simpa using hi
    have h1 := hf i f hi'
    have hlt : i < xs.length := by
      have := (Array.getElem?_eq_some_iff.1 hi').1
      omega
    rw [List.getElem?_eq_getElem hlt] at h1
    exact ⟨_, h1⟩)
  exact ⟨y, by simpa using hy, oy⟩
theorem Opens.iso {α β : Type} {P : Program} {t : TypeId} {d : Kd α} {ok : α → Prop} (f : β → α) (g : α → β) (hg : ∀ x, f (g x) = x) (h : Opens P t d ok) : Opens P t (Kd.iso d f) (fun y => ok (f y)) := by
  intro H enc w base spare held fuel cs x hx
  obtain ⟨y, hy, o⟩ := h H enc w base spare held fuel cs x hx
  refine ⟨g y, ?_, ?_⟩
  · show d.K w (f (g y)) cs
    rw [hg]
    exact hy
  · show ok (f (g y))
    rw [hg]
    exact o
theorem Opens.at_struct {α : Type} {P : Program} {t : TypeId} {d : Kd α} {ok : α → Prop} (h : Opens P t d ok) {H : Type} {enc : TypeId × Value → H} {w : World} {base : Nat} {spare : Nat → Bool} {held : Bool} {v : Value} {x : DataW H} {ps : List MemPlace}
    {fs : Array Field} {r : Reach} {b0 : Nat} (hu : P.underlying t = some (.struct fs)) (hv : Value.okWide P w r b0 t v) (hx : DataW.Trod enc P w base spare held t v x ps) : ∃ y cs, v = .agg (List.toArray cs) ∧ d.K w y cs ∧ ok y := by
  obtain ⟨cs, rfl, _⟩ := okWide_struct hu hv
  obtain ⟨fuel, hf⟩ := hx
  obtain ⟨y, hK, o⟩ := h _ _ _ _ _ _ _ _ _ hf
  exact ⟨y, cs.toList, by simp, by simpa [Value.cells] using hK, o⟩
end Go.Proofs.YtkjfcmgpplapeaaDoor.Rd
namespace Go.Proofs.YtkjfcmgpplapeaaDoor.Tab
open Go.RowKit
theorem tab_data : (Rows.laid_internal_strconv_uint64pow10 : DataW Unit) = Lib.tabData .u64 Lib.pow10Tab := by kernel_rfl
set_option maxRecDepth 100000 in
theorem of_laid {W : World} (h : laidMetH Tryd.prog [("math/bits.deBruijn32tab", Rows.laid_math_bits_deBruijn32tab), ("math/bits.deBruijn64tab", Rows.laid_math_bits_deBruijn64tab), ("internal/strconv.uint64pow10", Rows.laid_internal_strconv_uint64pow10)] W) : Laid W := by
  rw [MakeChecks.laidMetH_plain _ _ _ (by kernel_rfl)] at h
  obtain ⟨ps, ⟨g0, t0, cs0, f0, p0, q0, hg0, ht0, hv0, hd0, ⟨g1, t1, cs1, f1, p1, q1, hg1, ht1, hv1, hd1, ⟨g2, t2, cs2, f2, p2, q2, hg2, ht2, hv2, hd2, _, _⟩, _⟩, _⟩, _, _⟩ := h
  rw [tab_data] at hd2
  obtain rfl := Option.some.inj ((show Tryd.prog.globalNamed "internal/strconv.uint64pow10" = some 3 by kernel_rfl).symm.trans hg2)
  obtain rfl := Option.some.inj ((show (Tryd.prog.globals[3]?).map (·.type) = some 196 by kernel_rfl).symm.trans ht2)
  unfold Laid Lib.TabIs
  rw [hv2, ← Lib.cells_of_tab (n := 20) Tryd.underlying196 Tryd.underlying178 (by kernel_rfl) (by kernel_rfl) hd2]
end Go.Proofs.YtkjfcmgpplapeaaDoor.Tab
