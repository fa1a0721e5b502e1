/- A part of the proof that the law FnExactSaid holds for every input: the words, functions and walks that its row needs, without a condition of their own. -/
import Derived.ProofKit
import Derived.DataElems
import Derived.ChangeArms
import Derived.SizedLaws
import Derived.Test.YthbcnakmnbilhaaZFnExactSaida0
import Derived.Test.YthbcnakmnbilhaaZFnExactSaida7
namespace Go.Proofs.Ythbcnakmnbilhaa.Pure
open Go.RowKit Go.Proofs.Ythbcnakmnbilhaa Go.Proofs.Ythbcnakmnbilhaa.PFnExactSaid Go.Proofs.YthbcnakmnbilhaaW.PrintWords Go.Proofs.YthbcnakmnbilhaaW.PrintLast Go.Proofs.Ythbcnakmnbilhaa.Lp
set_option linter.unusedVariables false
set_option linter.unusedSimpArgs false
theorem toIntS_ev (l : List Int) (h : l.length ≤ 35184372088832) : Ev (fun k => laws_toIntS.f k l) l := by
  have key := count_up (L := fun j k => laws_toIntS.l0 k l (l.take j ++ List.replicate (l.length - j) 0) (j : Int)) (R := fun _ => l) (n := l.length)
    (Ev.one fun k => by simp [laws_toIntS.l0])
    (fun j hj ih => Ev.step (fun k => by
      simp only [laws_toIntS.l0]
      rw [if_pos (by omega), if_pos (by omega), if_pos (by simp; omega), wrapS hj (by omega), Int.toNat_natCast, fill_set l 0 j hj _ (rd_get hj)]) ih)
  refine Ev.congr (fun k => ?_) (key 0 (Nat.zero_le _))
  unfold laws_toIntS.f
  rw [if_pos (by omega), if_pos (by simpa using h)]
  simp
theorem eqIntS_ev (a b : List Int) (h : a.length ≤ 9223372036854775807) : Ev (fun k => laws_eqIntS.f k a b) (decide (a = b)) := by
  by_cases hl : a.length = b.length
  · have key := count_up (L := fun j k => laws_eqIntS.l0 k a b (j : Int)) (R := fun j => agree a b j) (n := a.length)
      (Ev.one fun k => by simp [laws_eqIntS.l0, agree_end hl])
      (fun j hj ih => by
        by_cases e : a[j] = b[j]
        · exact Ev.step (fun k => by
            simp only [laws_eqIntS.l0]
            rw [if_pos (by omega), if_pos (by omega), if_pos (by omega), if_pos (by rw [rd_get hj, rd_get (by omega), e]), wrapS hj (by omega)]) (by rw [agree_step hj (by omega) e]; exact ih)
        · exact Ev.one fun k => by
            simp only [laws_eqIntS.l0]
            rw [if_pos (by omega), if_pos (by omega), if_pos (by omega), if_neg (by rw [rd_get hj, rd_get (by omega)]; exact e), agree_no hj (by omega) e])
    refine Ev.congr (fun k => ?_) (key 0 (Nat.zero_le _))
    unfold laws_eqIntS.f
    rw [if_pos (by omega)]
    rfl
  · refine Ev.all fun k => ?_
    unfold laws_eqIntS.f
    rw [if_neg (by omega), decide_eq_false (fun e => hl (by rw [e]))]
theorem eqIntS_self (a : List Int) (h : a.length ≤ 9223372036854775807) : Ev (fun k => laws_eqIntS.f k a a) true := by
  have := eqIntS_ev a a h
  simpa using this
theorem szIntS_ev (l : (List Int)) (a : Int) (h0 : 0 ≤ a) (hB : a ≤ 1048576) (hl : l.length ≤ 9223372036854775807) : Ev (fun k => laws_szIntS.f l a) (left? l.length a) := by
  refine Ev.all fun k => ?_
  unfold laws_szIntS.f left?
  rw [wrap_in (by omega) (by omega)]
  by_cases h : (l.length : Int) ≤ a
  · rw [if_neg (by omega), if_pos h]
  · rw [if_pos (by omega), if_neg h]
def wlThread (x : S125) : Nat := x.f1.length
def wiThread (x : S128) : Nat := x.f1.length
def cvThread (x : S125) : S128 := ⟨x.f0, x.f1, x.f2⟩
theorem w_cvThread (x : S125) : wiThread (cvThread x) = wlThread x := rfl
def wlChan (x : S127) : Nat := x.f1.length
def wiChan (x : S74) : Nat := x.f1.length
def cvChan (x : S127) : S74 := ⟨x.f0, x.f1, x.f2⟩
theorem w_cvChan (x : S127) : wiChan (cvChan x) = wlChan x := rfl
def cvNote (x : S132) : S101 := ⟨x.f0, x.f1⟩
theorem szThread_ev (a_0 : Int) (a_1 : (List Int)) (a_2 : Int) (a : Int) (h0 : 0 ≤ a) (hB : a ≤ 1048576) (hfin : a_1.length ≤ 9223372036854775807) : Ev (fun k => laws_szThread.f a_0 a_1 a_2 a) (left? (a_1.length) a) := by
  simp only [laws_szThread.f]
  refine Ev.bind (szIntS_ev a_1 a (by omega) (by omega) hfin) ?_
  by_cases c0 : ((a_1.length : Nat) : Int) ≤ a
  case neg => rw [left?_no c0]; (try rw [left?_no (by omega)]); exact Ev.ite_pos (by omega) (Ev.now _)
  rw [left?_yes c0]
  refine Ev.ite_neg (by omega) ?_
  (try rw [left?_yes (by omega)])
  exact Ev.val (by omega) (Ev.now _)
theorem szThreadS_ev (xs : (List S125)) (a : Int) (h0 : 0 ≤ a) (hB : a ≤ 1048576) (hfin : (xs.length ≤ 9223372036854775807 ∧ ∀ y ∈ xs, y.f1.length ≤ 9223372036854775807)) : Ev (fun k => laws_szThreadS.f k xs a) (left? (xs.length + total wlThread xs) a) := by
  obtain ⟨hl, hfin⟩ := hfin
  have rd_e : ∀ (j : Nat) (hj : j < xs.length), rd_T125 xs (j : Int) = xs[j] := fun j hj => by simp [rd_T125, List.getD_eq_getElem?_getD, hj]
  by_cases h : (xs.length : Int) ≤ a
  · have key := sz_loop (L := fun j a k => laws_szThreadS.l0 k xs a (j : Int)) xs wlThread 1048576 (fun a => Ev.one fun k => by simp only [laws_szThreadS.l0]; rw [if_neg (by omega)])
      (fun j hj a hB hw r ih => by
        have h0 : 0 ≤ a := by omega
        have hw' : ((xs[j].f1.length : Nat) : Int) ≤ a := hw
        refine Ev.step (fun k => by simp only [laws_szThreadS.l0]; rw [if_pos (by omega), if_pos (by omega), rd_e j hj]) (Ev.bind (szThread_ev (xs[j].f0) (xs[j].f1) (xs[j].f2) a h0 hB (hfin xs[j] (List.getElem_mem hj))) ?_)
        rw [left?_yes hw', wrapS hj hl]
        exact Ev.ite_neg (by omega) ih)
      (fun j hj a h0 hB hw => by
        have hw' : ¬ ((xs[j].f1.length : Nat) : Int) ≤ a := by have : a < (wlThread xs[j] : Int) := hw; intro c; exact absurd (show (wlThread xs[j] : Int) ≤ a from c) (by omega)
        refine Ev.step (fun k => by simp only [laws_szThreadS.l0]; rw [if_pos (by omega), if_pos (by omega), rd_e j hj]) (Ev.bind (szThread_ev (xs[j].f0) (xs[j].f1) (xs[j].f2) a h0 hB (hfin xs[j] (List.getElem_mem hj))) ?_)
        rw [left?_no hw']
        exact Ev.ite_pos (by omega) (Ev.now _)) (a - (xs.length : Int)) (by omega) (by omega)
    rw [left?_add h] at key
    refine Ev.congr (fun k => ?_) key
    unfold laws_szThreadS.f
    rw [wrap_in (by omega) (by omega), if_neg (by omega)]
    rfl
  · refine Ev.all fun k => ?_
    unfold laws_szThreadS.f
    rw [wrap_in (by omega) (by omega), if_pos (by omega), left?_no (by omega)]
theorem szChan_ev (a_0 : Int) (a_1 : (List Int)) (a_2 : Bool) (a : Int) (h0 : 0 ≤ a) (hB : a ≤ 1048576) (hfin : a_1.length ≤ 9223372036854775807) : Ev (fun k => laws_szChan.f a_0 a_1 a_2 a) (left? (a_1.length) a) := by
  simp only [laws_szChan.f]
  refine Ev.bind (szIntS_ev a_1 a (by omega) (by omega) hfin) ?_
  by_cases c0 : ((a_1.length : Nat) : Int) ≤ a
  case neg => rw [left?_no c0]; (try rw [left?_no (by omega)]); exact Ev.ite_pos (by omega) (Ev.now _)
  rw [left?_yes c0]
  refine Ev.ite_neg (by omega) ?_
  (try rw [left?_yes (by omega)])
  exact Ev.val (by omega) (Ev.now _)
theorem szChanS_ev (xs : (List S127)) (a : Int) (h0 : 0 ≤ a) (hB : a ≤ 1048576) (hfin : (xs.length ≤ 9223372036854775807 ∧ ∀ y ∈ xs, y.f1.length ≤ 9223372036854775807)) : Ev (fun k => laws_szChanS.f k xs a) (left? (xs.length + total wlChan xs) a) := by
  obtain ⟨hl, hfin⟩ := hfin
  have rd_e : ∀ (j : Nat) (hj : j < xs.length), rd_T127 xs (j : Int) = xs[j] := fun j hj => by simp [rd_T127, List.getD_eq_getElem?_getD, hj]
  by_cases h : (xs.length : Int) ≤ a
  · have key := sz_loop (L := fun j a k => laws_szChanS.l0 k xs a (j : Int)) xs wlChan 1048576 (fun a => Ev.one fun k => by simp only [laws_szChanS.l0]; rw [if_neg (by omega)])
      (fun j hj a hB hw r ih => by
        have h0 : 0 ≤ a := by omega
        have hw' : ((xs[j].f1.length : Nat) : Int) ≤ a := hw
        refine Ev.step (fun k => by simp only [laws_szChanS.l0]; rw [if_pos (by omega), if_pos (by omega), rd_e j hj]) (Ev.bind (szChan_ev (xs[j].f0) (xs[j].f1) (xs[j].f2) a h0 hB (hfin xs[j] (List.getElem_mem hj))) ?_)
        rw [left?_yes hw', wrapS hj hl]
        exact Ev.ite_neg (by omega) ih)
      (fun j hj a h0 hB hw => by
        have hw' : ¬ ((xs[j].f1.length : Nat) : Int) ≤ a := by have : a < (wlChan xs[j] : Int) := hw; intro c; exact absurd (show (wlChan xs[j] : Int) ≤ a from c) (by omega)
        refine Ev.step (fun k => by simp only [laws_szChanS.l0]; rw [if_pos (by omega), if_pos (by omega), rd_e j hj]) (Ev.bind (szChan_ev (xs[j].f0) (xs[j].f1) (xs[j].f2) a h0 hB (hfin xs[j] (List.getElem_mem hj))) ?_)
        rw [left?_no hw']
        exact Ev.ite_pos (by omega) (Ev.now _)) (a - (xs.length : Int)) (by omega) (by omega)
    rw [left?_add h] at key
    refine Ev.congr (fun k => ?_) key
    unfold laws_szChanS.f
    rw [wrap_in (by omega) (by omega), if_neg (by omega)]
    rfl
  · refine Ev.all fun k => ?_
    unfold laws_szChanS.f
    rw [wrap_in (by omega) (by omega), if_pos (by omega), left?_no (by omega)]
theorem szNoteS_ev (l : (List S132)) (a : Int) (h0 : 0 ≤ a) (hB : a ≤ 1048576) (hl : l.length ≤ 9223372036854775807) : Ev (fun k => laws_szNoteS.f l a) (left? l.length a) := by
  refine Ev.all fun k => ?_
  unfold laws_szNoteS.f left?
  rw [wrap_in (by omega) (by omega)]
  by_cases h : (l.length : Int) ≤ a
  · rw [if_neg (by omega), if_pos h]
  · rw [if_pos (by omega), if_neg h]
theorem szSource_ev (a_0 : (List S125)) (a_1 : (List S127)) (a_2 : (List S132)) (a : Int) (h0 : 0 ≤ a) (hB : a ≤ 1048576) (hfin : ((a_0.length ≤ 9223372036854775807 ∧ ∀ y ∈ a_0, y.f1.length ≤ 9223372036854775807) ∧ (a_1.length ≤ 9223372036854775807 ∧ ∀ y ∈ a_1, y.f1.length ≤ 9223372036854775807) ∧ a_2.length ≤ 9223372036854775807)) : Ev (fun k => laws_szSource.f k a_0 a_1 a_2 a) (left? ((a_0.length + total wlThread a_0) + ((a_1.length + total wlChan a_1) + (a_2.length))) a) := by
  obtain ⟨h0_, h1_, h2_⟩ := hfin
  simp only [laws_szSource.f]
  refine Ev.bind (szThreadS_ev a_0 a (by omega) (by omega) h0_) ?_
  by_cases c0 : (((a_0.length + total wlThread a_0) : Nat) : Int) ≤ a
  case neg => rw [left?_no c0]; (try rw [left?_no (by omega)]); exact Ev.ite_pos (by omega) (Ev.now _)
  rw [left?_yes c0]
  refine Ev.ite_neg (by omega) ?_
  refine Ev.bind (szChanS_ev a_1 (a - (((a_0.length + total wlThread a_0) : Nat) : Int)) (by omega) (by omega) h1_) ?_
  by_cases c1 : (((a_1.length + total wlChan a_1) : Nat) : Int) ≤ (a - (((a_0.length + total wlThread a_0) : Nat) : Int))
  case neg => rw [left?_no c1]; (try rw [left?_no (by omega)]); exact Ev.ite_pos (by omega) (Ev.now _)
  rw [left?_yes c1]
  refine Ev.ite_neg (by omega) ?_
  refine Ev.bind (szNoteS_ev a_2 ((a - (((a_0.length + total wlThread a_0) : Nat) : Int)) - (((a_1.length + total wlChan a_1) : Nat) : Int)) (by omega) (by omega) h2_) ?_
  by_cases c2 : ((a_2.length : Nat) : Int) ≤ ((a - (((a_0.length + total wlThread a_0) : Nat) : Int)) - (((a_1.length + total wlChan a_1) : Nat) : Int))
  case neg => rw [left?_no c2]; (try rw [left?_no (by omega)]); exact Ev.ite_pos (by omega) (Ev.now _)
  rw [left?_yes c2]
  refine Ev.ite_neg (by omega) ?_
  (try rw [left?_yes (by omega)])
  exact Ev.val (by omega) (Ev.now _)
theorem toThread_ev (a_0 : Int) (a_1 : (List Int)) (a_2 : Int) (h : a_1.length ≤ 1048576) : Ev (fun k => laws_toThread.f k a_0 a_1 a_2) (a_0, a_1, a_2) := by
  simp only [laws_toThread.f]
  refine Ev.bind (toIntS_ev a_1 (by omega)) ?_
  try simp only []
  exact Ev.now _
theorem toThreadS_ev (xs : (List S125)) (h : (xs.length + total wlThread xs) ≤ 1048576) : Ev (fun k => laws_toThreadS.f k xs) (xs.map cvThread) := by
  have rd_e : ∀ (j : Nat) (hj : j < xs.length), rd_T125 xs (j : Int) = xs[j] := fun j hj => by simp [rd_T125, List.getD_eq_getElem?_getD, hj]
  have key := to_loop (L := fun j ys k => laws_toThreadS.l0 k xs ys (j : Int)) xs cvThread z128 (fun ys _ => Ev.one fun k => by simp only [laws_toThreadS.l0]; rw [if_neg (by omega)])
    (fun j hj ys hy r ih => by
      refine Ev.step (fun k => by simp only [laws_toThreadS.l0]; rw [if_pos (by omega), if_pos (by omega), rd_e j hj]) (Ev.bind (toThread_ev (xs[j].f0) (xs[j].f1) (xs[j].f2) (by have := total_mem wlThread (List.getElem_mem hj); have h2 : xs[j].f1.length = wlThread xs[j] := rfl; omega)) ?_)
      refine Ev.ite_pos (by omega) ?_
      rw [wrapS hj (by omega), Int.toNat_natCast]
      exact ih)
  refine Ev.congr (fun k => ?_) key
  unfold laws_toThreadS.f
  rw [if_pos (by omega), if_pos (by simp; omega)]
  simp only [Int.toNat_natCast]
  rfl
theorem toChan_ev (a_0 : Int) (a_1 : (List Int)) (a_2 : Bool) (h : a_1.length ≤ 1048576) : Ev (fun k => laws_toChan.f k a_0 a_1 a_2) (a_0, a_1, a_2) := by
  simp only [laws_toChan.f]
  refine Ev.bind (toIntS_ev a_1 (by omega)) ?_
  try simp only []
  exact Ev.now _
theorem toChanS_ev (xs : (List S127)) (h : (xs.length + total wlChan xs) ≤ 1048576) : Ev (fun k => laws_toChanS.f k xs) (xs.map cvChan) := by
  have rd_e : ∀ (j : Nat) (hj : j < xs.length), rd_T127 xs (j : Int) = xs[j] := fun j hj => by simp [rd_T127, List.getD_eq_getElem?_getD, hj]
  have key := to_loop (L := fun j ys k => laws_toChanS.l0 k xs ys (j : Int)) xs cvChan z74 (fun ys _ => Ev.one fun k => by simp only [laws_toChanS.l0]; rw [if_neg (by omega)])
    (fun j hj ys hy r ih => by
      refine Ev.step (fun k => by simp only [laws_toChanS.l0]; rw [if_pos (by omega), if_pos (by omega), rd_e j hj]) (Ev.bind (toChan_ev (xs[j].f0) (xs[j].f1) (xs[j].f2) (by have := total_mem wlChan (List.getElem_mem hj); have h2 : xs[j].f1.length = wlChan xs[j] := rfl; omega)) ?_)
      refine Ev.ite_pos (by omega) ?_
      rw [wrapS hj (by omega), Int.toNat_natCast]
      exact ih)
  refine Ev.congr (fun k => ?_) key
  unfold laws_toChanS.f
  rw [if_pos (by omega), if_pos (by simp; omega)]
  simp only [Int.toNat_natCast]
  rfl
theorem toNote_ev (a_0 : Int) (a_1 : Int)  : Ev (fun k => laws_toNote.f a_0 a_1) (a_0, a_1) := by
  exact Ev.all fun k => rfl
theorem toNoteS_ev (xs : (List S132)) (h : xs.length ≤ 1048576) : Ev (fun k => laws_toNoteS.f k xs) (xs.map cvNote) := by
  have rd_e : ∀ (j : Nat) (hj : j < xs.length), rd_T132 xs (j : Int) = xs[j] := fun j hj => by simp [rd_T132, List.getD_eq_getElem?_getD, hj]
  have key := to_loop (L := fun j ys k => laws_toNoteS.l0 k xs ys (j : Int)) xs cvNote z101 (fun ys _ => Ev.one fun k => by simp only [laws_toNoteS.l0]; rw [if_neg (by omega)])
    (fun j hj ys hy r ih => by
      refine Ev.step (fun k => by simp only [laws_toNoteS.l0]; rw [if_pos (by omega), if_pos (by omega), rd_e j hj]) (Ev.bind (toNote_ev (xs[j].f0) (xs[j].f1) ) ?_)
      refine Ev.ite_pos (by omega) ?_
      rw [wrapS hj (by omega), Int.toNat_natCast]
      exact ih)
  refine Ev.congr (fun k => ?_) key
  unfold laws_toNoteS.f
  rw [if_pos (by omega), if_pos (by simp; omega)]
  simp only [Int.toNat_natCast]
  rfl
theorem toSource_ev (a_0 : (List S125)) (a_1 : (List S127)) (a_2 : (List S132)) (h0 : (a_0.length + total wlThread a_0) ≤ 1048576) (h1 : (a_1.length + total wlChan a_1) ≤ 1048576) (h2 : a_2.length ≤ 1048576) : Ev (fun k => laws_toSource.f k a_0 a_1 a_2) ((a_0.map cvThread), (a_1.map cvChan), (a_2.map cvNote)) := by
  simp only [laws_toSource.f]
  refine Ev.bind (toThreadS_ev a_0 h0) ?_
  try simp only []
  refine Ev.bind (toChanS_ev a_1 h1) ?_
  try simp only []
  refine Ev.bind (toNoteS_ev a_2 h2) ?_
  try simp only []
  exact Ev.now _
theorem eqThread_self (a_0 : Int) (a_1 : (List Int)) (a_2 : Int) (h : a_1.length ≤ 1048576) : Ev (fun k => laws_eqThread.f k a_0 a_1 a_2 a_0 a_1 a_2) true := by
  simp only [laws_eqThread.f, eq_self, if_true, bne_self_eq_false, Bool.false_eq_true, if_false]
  refine Ev.bind (eqIntS_self a_1 (by omega)) ?_
  try simp only [eq_self, if_true, bne_self_eq_false, Bool.false_eq_true, if_false]
  exact Ev.now _
theorem eqThreadS_self (xs : (List S128)) (h : (xs.length + total wiThread xs) ≤ 1048576) : Ev (fun k => laws_eqThreadS.f k xs xs) true := by
  have rd_e : ∀ (j : Nat) (hj : j < xs.length), rd_T128 xs (j : Int) = xs[j] := fun j hj => by simp [rd_T128, List.getD_eq_getElem?_getD, hj]
  have key := yes_loop (L := fun j k => laws_eqThreadS.l0 k xs xs (j : Int)) xs.length true (Ev.one fun k => by simp only [laws_eqThreadS.l0]; rw [if_neg (by omega)])
    (fun j hj ih => by
      refine Ev.step (fun k => by simp only [laws_eqThreadS.l0]; rw [if_pos (by omega), if_pos (by omega), if_pos (by omega), rd_e j hj]) (Ev.bind (eqThread_self (xs[j].f0) (xs[j].f1) (xs[j].f2) (by have := total_mem wiThread (List.getElem_mem hj); have h2 : xs[j].f1.length = wiThread xs[j] := rfl; omega)) ?_)
      refine Ev.ite_pos rfl ?_
      rw [wrapS hj (by omega)]
      exact ih)
  refine Ev.congr (fun k => ?_) key
  unfold laws_eqThreadS.f
  rw [if_pos rfl]
  rfl
theorem eqChan_self (a_0 : Int) (a_1 : (List Int)) (a_2 : Bool) (h : a_1.length ≤ 1048576) : Ev (fun k => laws_eqChan.f k a_0 a_1 a_2 a_0 a_1 a_2) true := by
  simp only [laws_eqChan.f, eq_self, if_true, bne_self_eq_false, Bool.false_eq_true, if_false]
  refine Ev.bind (eqIntS_self a_1 (by omega)) ?_
  try simp only [eq_self, if_true, bne_self_eq_false, Bool.false_eq_true, if_false]
  exact Ev.now _
theorem eqChanS_self (xs : (List S74)) (h : (xs.length + total wiChan xs) ≤ 1048576) : Ev (fun k => laws_eqChanS.f k xs xs) true := by
  have rd_e : ∀ (j : Nat) (hj : j < xs.length), rd_T74 xs (j : Int) = xs[j] := fun j hj => by simp [rd_T74, List.getD_eq_getElem?_getD, hj]
  have key := yes_loop (L := fun j k => laws_eqChanS.l0 k xs xs (j : Int)) xs.length true (Ev.one fun k => by simp only [laws_eqChanS.l0]; rw [if_neg (by omega)])
    (fun j hj ih => by
      refine Ev.step (fun k => by simp only [laws_eqChanS.l0]; rw [if_pos (by omega), if_pos (by omega), if_pos (by omega), rd_e j hj]) (Ev.bind (eqChan_self (xs[j].f0) (xs[j].f1) (xs[j].f2) (by have := total_mem wiChan (List.getElem_mem hj); have h2 : xs[j].f1.length = wiChan xs[j] := rfl; omega)) ?_)
      refine Ev.ite_pos rfl ?_
      rw [wrapS hj (by omega)]
      exact ih)
  refine Ev.congr (fun k => ?_) key
  unfold laws_eqChanS.f
  rw [if_pos rfl]
  rfl
theorem eqNote_self (a_0 : Int) (a_1 : Int)  : Ev (fun k => laws_eqNote.f a_0 a_1 a_0 a_1) true := by
  exact Ev.all fun k => by simp [laws_eqNote.f]
theorem eqNoteS_self (xs : (List S101)) (h : xs.length ≤ 1048576) : Ev (fun k => laws_eqNoteS.f k xs xs) true := by
  have rd_e : ∀ (j : Nat) (hj : j < xs.length), rd_T101 xs (j : Int) = xs[j] := fun j hj => by simp [rd_T101, List.getD_eq_getElem?_getD, hj]
  have key := yes_loop (L := fun j k => laws_eqNoteS.l0 k xs xs (j : Int)) xs.length true (Ev.one fun k => by simp only [laws_eqNoteS.l0]; rw [if_neg (by omega)])
    (fun j hj ih => by
      refine Ev.step (fun k => by simp only [laws_eqNoteS.l0]; rw [if_pos (by omega), if_pos (by omega), if_pos (by omega), rd_e j hj]) (Ev.bind (eqNote_self (xs[j].f0) (xs[j].f1) ) ?_)
      refine Ev.ite_pos rfl ?_
      rw [wrapS hj (by omega)]
      exact ih)
  refine Ev.congr (fun k => ?_) key
  unfold laws_eqNoteS.f
  rw [if_pos rfl]
  rfl
theorem eqSource_self (a_0 : (List S128)) (a_1 : (List S74)) (a_2 : (List S101)) (h0 : (a_0.length + total wiThread a_0) ≤ 1048576) (h1 : (a_1.length + total wiChan a_1) ≤ 1048576) (h2 : a_2.length ≤ 1048576) : Ev (fun k => laws_eqSource.f k a_0 a_1 a_2 a_0 a_1 a_2) true := by
  simp only [laws_eqSource.f, eq_self, if_true, bne_self_eq_false, Bool.false_eq_true, if_false]
  refine Ev.bind (eqThreadS_self a_0 h0) ?_
  try simp only [eq_self, if_true, bne_self_eq_false, Bool.false_eq_true, if_false]
  refine Ev.bind (eqChanS_self a_1 h1) ?_
  try simp only [eq_self, if_true, bne_self_eq_false, Bool.false_eq_true, if_false]
  refine Ev.bind (eqNoteS_self a_2 h2) ?_
  try simp only [eq_self, if_true, bne_self_eq_false, Bool.false_eq_true, if_false]
  exact Ev.now _
theorem threads_eq (xs : List S125) (h : xs.length + total wlThread xs ≤ 1048576) : (xs.map cvThread).length + total wiThread (xs.map cvThread) ≤ 1048576 := by
  rw [List.length_map, total_map wlThread wiThread cvThread w_cvThread]
  exact h
theorem chans_eq (xs : List S127) (h : xs.length + total wlChan xs ≤ 1048576) : (xs.map cvChan).length + total wiChan (xs.map cvChan) ≤ 1048576 := by
  rw [List.length_map, total_map wlChan wiChan cvChan w_cvChan]
  exact h
theorem wsum_le {α : Type} (wt w' : α → Nat) (m : Nat) : ∀ xs : List α, (∀ x ∈ xs, wt x ≤ m + w' x) → Marks.wsum wt xs ≤ m * xs.length + total w' xs
  | [], _ => by simp [Marks.wsum]
  | x :: xs, h => by
    have h1 := h x List.mem_cons_self
    have h2 := wsum_le wt w' m xs (fun y hy => h y (List.mem_cons_of_mem _ hy))
    rw [Marks.wsum, total, List.length_cons, Nat.mul_add]
    omega
theorem wsum_one {α : Type} : ∀ xs : List α, Marks.wsum (fun _ => 1) xs = xs.length
  | [] => rfl
  | x :: xs => by rw [Marks.wsum, wsum_one xs, List.length_cons]; omega
theorem Ev.if_le {α : Type} {c : Prop} [Decidable c] {g : Nat → Option α} {r : α} (h : c) (k : Ev g r) : Ev (fun n => if c then g n else none) r := by simp only [if_pos h]; exact k
theorem wsum_threads (xs : List S128) : Marks.wsum wt128 xs ≤ 2 * xs.length + total wiThread xs := wsum_le _ _ 2 xs (fun x _ => by simp only [wt128, wsum_one, wiThread]; omega)
theorem wsum_chans (xs : List S74) : Marks.wsum wt74 xs ≤ 2 * xs.length + total wiChan xs := wsum_le _ _ 2 xs (fun x _ => by simp only [wt74, wsum_one, wiChan]; omega)
theorem wsum_notes (xs : List S101) : Marks.wsum wt101 xs ≤ 2 * xs.length + total (fun _ => 0) xs := wsum_le _ _ 2 xs (fun x _ => by simp only [wt101]; omega)
theorem total_zero {α : Type} : ∀ xs : List α, total (fun _ => 0) xs = 0
  | [] => rfl
  | x :: xs => by rw [total, total_zero xs]
def saidOf (ns : List S101) (who : Int) : List Int := (ns.filter (fun n => decide (n.f0 = who))).map (fun n => n.f1)
theorem saidOf_succ {ns : List S101} {j : Nat} (who : Int) (h : j < ns.length) : saidOf (ns.take (j + 1)) who = if ns[j].f0 = who then saidOf (ns.take j) who ++ [ns[j].f1] else saidOf (ns.take j) who := by
  unfold saidOf
  rw [List.take_succ_eq_append_getElem h, List.filter_append, List.map_append]
  by_cases c : ns[j].f0 = who
  · rw [if_pos c]; simp [c]
  · rw [if_neg c]; simp [c]
theorem saidOf_len (ns : List S101) (who : Int) : (saidOf ns who).length ≤ ns.length := by
  unfold saidOf
  rw [List.length_map]
  exact List.length_filter_le _ _
theorem rd_noteS (l : List S101) (j : Nat) (h : j < l.length) : rd_T101 l (j : Int) = l[j] := by simp [rd_T101, List.getD_eq_getElem?_getD, h]
theorem spec_Said_ev (a : List S128) (b : List S74) (ns : List S101) (who : Int) (h : ns.length ≤ 1048576) : Ev (fun k => spec_Said.f k a b ns who) (saidOf ns who) := by
  have key := count_up (L := fun j k => spec_Said.l0 k who (saidOf (ns.take j) who) (j : Int) a b ns) (R := fun _ => saidOf ns who) (n := ns.length)
    (Ev.one fun k => by simp [spec_Said.l0])
    (fun j hj ih => by
      have hl : (saidOf (ns.take j) who).length < 17592186044416 := by have := saidOf_len (ns.take j) who; rw [List.length_take] at this; omega
      refine Ev.step (fun k => ?_) ih
      rw [spec_Said.l0, if_pos (by omega), if_pos (by omega), rd_noteS ns j hj, saidOf_succ who hj, wrapS hj (by omega)]
      by_cases c : ns[j].f0 = who
      · rw [if_pos c, if_pos c, if_pos hl]
      · rw [if_neg c, if_neg c])
  have := key 0 (Nat.zero_le _)
  simpa [spec_Said.f, saidOf] using this
theorem impl_Said_ev (a : List S128) (b : List S74) (ns : List S101) (who : Int) (h : ns.length ≤ 1048576) : Ev (fun k => impl_Said.f k a b ns who) (saidOf ns who) := by
  have key := count_up (L := fun j k => impl_Said.l0 k who (saidOf (ns.take j) who) ns (ns.length : Int) (j : Int)) (R := fun _ => saidOf ns who) (n := ns.length)
    (Ev.one fun k => by simp [impl_Said.l0])
    (fun j hj ih => by
      have hl : (saidOf (ns.take j) who).length < 17592186044416 := by have := saidOf_len (ns.take j) who; rw [List.length_take] at this; omega
      refine Ev.step (fun k => ?_) ih
      rw [impl_Said.l0, if_pos (by omega), if_pos (by omega), if_pos (by omega), rd_noteS ns j hj, saidOf_succ who hj, wrapS hj (by omega)]
      by_cases c : ns[j].f0 = who
      · rw [if_pos c, if_pos c, if_pos hl]
      · rw [if_neg c, if_neg c])
  have := key 0 (Nat.zero_le _)
  simpa [impl_Said.f, saidOf] using this
theorem FnExactSaid (x0_0 : (List S125)) (x0_1 : (List S127)) (x0_2 : (List S132)) (x1 : Int) (ok0 : ((x0_0.length ≤ maxLen ∧ ∀ z ∈ x0_0, (((Lit.int .i64 z.f0).wf = true) ∧ ((z.f1.length ≤ maxLen ∧ ∀ z' ∈ z.f1, ((Lit.int .i64 z').wf = true)) ∧ ((Lit.int .i64 z.f2).wf = true)))) ∧ ((x0_1.length ≤ maxLen ∧ ∀ z ∈ x0_1, (((Lit.int .i64 z.f0).wf = true) ∧ ((z.f1.length ≤ maxLen ∧ ∀ z' ∈ z.f1, ((Lit.int .i64 z').wf = true)) ∧ True))) ∧ (x0_2.length ≤ maxLen ∧ ∀ z ∈ x0_2, (((Lit.int .i64 z.f0).wf = true) ∧ ((Lit.int .i64 z.f1).wf = true)))))) (ok1 : ((Lit.int .i64 x1).wf = true)) : ∃ k, laws_FnExactSaid.f k x0_0 x0_1 x0_2 x1 = some true := by
  refine Ev.rounds (g := fun k => laws_FnExactSaid.f k x0_0 x0_1 x0_2 x1) ?_
  simp only [laws_FnExactSaid.f]
  refine Ev.bind (szSource_ev x0_0 x0_1 x0_2 _ (by omega) (by omega) ⟨⟨(by have := ((ok0).1).1; unfold maxLen at this; omega), fun x0_ h0_ => (by have := ((((ok0).1).2 x0_ h0_).2.1).1; unfold maxLen at this; omega)⟩, ⟨(by have := ((ok0).2.1).1; unfold maxLen at this; omega), fun x0_ h0_ => (by have := ((((ok0).2.1).2 x0_ h0_).2.1).1; unfold maxLen at this; omega)⟩, (by have := ((ok0).2.2).1; unfold maxLen at this; omega)⟩) ?_
  by_cases h2 : (((x0_0.length + total wlThread x0_0) + ((x0_1.length + total wlChan x0_1) + x0_2.length) : Nat) : Int) ≤ 1048576
  case neg => rw [left?_no (by omega)]; exact Ev.ite_pos (by omega) (Ev.now _)
  rw [left?_yes (by omega)]
  refine Ev.ite_neg (by omega) ?_
  have hto := toSource_ev x0_0 x0_1 x0_2 (by omega) (by omega) (by omega)
  have hn : (x0_2.map cvNote).length ≤ 1048576 := by simp; omega
  have hs := saidOf_len (x0_2.map cvNote) x1
  refine Ev.bind hto ?_
  dsimp only
  refine Ev.bind (spec_Said_ev _ _ _ _ hn) ?_
  refine Ev.bind hto ?_
  dsimp only
  refine Ev.bind (impl_Said_ev _ _ _ _ hn) ?_
  refine Ev.bind (eqIntS_self _ (by omega)) ?_
  refine Ev.ite_pos rfl ?_
  refine Ev.bind hto ?_
  dsimp only
  refine Ev.bind (eqSource_self (x0_0.map cvThread) (x0_1.map cvChan) (x0_2.map cvNote) (threads_eq x0_0 (by omega)) (chans_eq x0_1 (by omega)) hn) ?_
  refine Ev.ite_pos rfl ?_
  refine Ev.if_le (by
    have h3 := wsum_threads (x0_0.map cvThread)
    have h4 := wsum_chans (x0_1.map cvChan)
    have h5 := wsum_notes (x0_2.map cvNote)
    have h6 := threads_eq x0_0 (by omega)
    have h7 := chans_eq x0_1 (by omega)
    rw [total_zero] at h5
    simp only [List.length_map] at h3 h4 h5 h6 h7
    omega) ?_
  refine Ev.bind (eqIntS_self _ (by omega)) ?_
  refine Ev.ite_pos rfl ?_
  refine Ev.if_le (by rw [wsum_one]; omega) ?_
  refine Ev.bind hto ?_
  dsimp only
  refine Ev.bind (impl_Said_ev _ _ _ _ hn) ?_
  refine Ev.bind (eqIntS_self _ (by omega)) ?_
  refine Ev.ite_pos rfl ?_
  exact Ev.now _
end Go.Proofs.Ythbcnakmnbilhaa.Pure
namespace Go.Proofs.Ythbcnakmnbilhaa.Rd
open Go.RowKit Go.Proofs.YthbcnakmnbilhaaW.PrintWords Go.ChangeShapes Go.WideShapes
set_option linter.unusedVariables false
def Opens {α : Type} (P : Program) (t : TypeId) (d : Kd α) (ok : α → Prop) : Prop :=
  ∀ (H : Type) (enc : TypeId × Value → H) (w : World) (base : Nat) (spare : Nat → Bool) (held : Bool) (fuel : Nat) (cs : List Value) (x : DataW H × List MemPlace),
    DataW.trod enc P w base spare held fuel t cs = some x → ∃ y, d.K w y cs ∧ ok y
theorem Opens.int {P : Program} {t : TypeId} {k : IntKind} (ht : P.underlying t = some (.int k)) : Opens P t (Kd.int k) (fun n => (Lit.int k n).wf = true) := by
  intro H enc w base spare held fuel cs x h
  obtain ⟨n, rfl, _, hw⟩ := DataW.trod_int ht h
  exact ⟨n, rfl, hw⟩
theorem Opens.bool {P : Program} {t : TypeId} (ht : P.underlying t = some .bool) : Opens P t Kd.bool (fun _ => True) := by
  intro H enc w base spare held fuel cs x h
  obtain ⟨n, rfl, _⟩ := DataW.trod_bool ht h
  exact ⟨n, rfl, trivial⟩
theorem Opens.weaken {α : Type} {P : Program} {t : TypeId} {d : Kd α} {ok ok' : α → Prop} (h : Opens P t d ok) (hk : ∀ x, ok x → ok' x) : Opens P t d ok' := by
  intro H enc w base spare held fuel cs x hx
  obtain ⟨y, hy, o⟩ := h H enc w base spare held fuel cs x hx
  exact ⟨y, hy, hk y o⟩
theorem list_of {α : Type} {Q : Nat → α → Prop} : ∀ n : Nat, (∀ i, i < n → ∃ y, Q i y) → ∃ ys : List α, ys.length = n ∧ ∀ i y, ys[i]? = some y → Q i y := by
  intro n
  induction n with
  | zero => exact fun _ => ⟨[], rfl, fun i y h => by simp at h⟩
  | succ n ih =>
    intro h
    obtain ⟨ys, hl, hq⟩ := ih (fun i hi => h i (by omega))
    obtain ⟨y, hy⟩ := h n (by omega)
    refine ⟨ys ++ [y], by simp [hl], fun i z hz => ?_⟩
    rcases Nat.lt_or_ge i ys.length with hi | hi
    · rw [List.getElem?_append_left hi] at hz
      exact hq i z hz
    · rw [List.getElem?_append_right hi] at hz
      have h0 : i - ys.length = 0 := by
        have := (List.getElem?_eq_some_iff.1 hz).1
        simp at this
        omega
      rw [h0] at hz
      simp at hz
      subst hz
      have : i = n := by omega
      rw [this]
      exact hy
theorem Opens.slice {α : Type} {P : Program} {t e : TypeId} (q : Nat) {d : Kd α} {ok : α → Prop} (ht : P.underlying t = some (.slice e)) (hs : P.cellsOf e = d.sz) (he : Opens P e d ok) :
    Opens P t (Kd.slice q d) (fun xs => xs.length ≤ maxLen ∧ ∀ x ∈ xs, ok x) := by
  intro H enc w base spare held fuel cs x h
  rcases DataW.trod_slice ht h with ⟨rfl, _⟩ | ⟨a, len, cap, elems, rest, n, _, rfl, _, _, hl, hm, hlen, hel, _, _⟩
  · exact ⟨[], ⟨none, 0, rfl, Nat.le_refl _, rfl, by simp, fun hp => absurd hp (by simp)⟩, by simp, by simp⟩
  · have each : ∀ i, i < len → ∃ y, ∃ c, w.cells? base (a.add (i * d.sz)) d.sz = some c ∧ d.K w y c ∧ ok y := by
      intro i hi
      have h1 := hel i hi
      rw [List.getElem?_eq_getElem (by omega), Option.bind_eq_some_iff, hs] at h1
      obtain ⟨c, hc, hx⟩ := h1
      obtain ⟨y, hy, ho⟩ := he H enc w base spare held n c _ hx
      exact ⟨y, c, hc, hy, ho⟩
    obtain ⟨ys, hyl, hq⟩ := list_of len each
    have hm' : len ≤ 9223372036854775807 := by unfold maxLen at hm; omega
    refine ⟨ys, ⟨some a, cap, by rw [hyl], by omega, rfl, by omega, fun _ => ⟨a, rfl, fun j p hj => ?_⟩⟩, by omega, fun y hy => ?_⟩
    · obtain ⟨c, hc, hk, _⟩ := hq j p hj
      obtain ⟨_, hcl, hcell⟩ := World.cells?_some hc
      refine ⟨c, hcl, hk, fun i u hu => ?_⟩
      have hi : i < d.sz := by
        have := (List.getElem?_eq_some_iff.1 hu).1
        omega
      rw [← Addr.add_add, hcell i hi, hu]
    · obtain ⟨i, hi⟩ := List.getElem?_of_mem hy
      obtain ⟨c, _, _, ho⟩ := hq i y hi
      exact ho
def OpensAt {α : Type} (P : Program) (fs : List Field) (off : Nat) (d : Kd α) (ok : α → Prop) : Prop :=
  ∀ (H : Type) (enc : TypeId × Value → H) (w : World) (base : Nat) (spare : Nat → Bool) (held : Bool) (n : Nat) (cs : List Value), cs.length = off + d.sz →
    (∀ f ∈ fs, ∃ y, DataW.trod enc P w base spare held n f.type ((cs.drop f.offset).take (P.cellsOf f.type)) = some y) → ∃ y, d.K w y (cs.drop off) ∧ ok y
theorem OpensAt.one {α : Type} {P : Program} {f : Field} {off : Nat} {d : Kd α} {ok : α → Prop} (ho : f.offset = off) (hs : P.cellsOf f.type = d.sz) (h : Opens P f.type d ok) : OpensAt P [f] off d ok := by
  intro H enc w base spare held n cs hl hf
  obtain ⟨x, hx⟩ := hf f (by simp)
  rw [ho, hs, List.take_of_length_le (by simp; omega)] at hx
  exact h _ _ _ _ _ _ _ _ _ hx
theorem OpensAt.cons {α β : Type} {P : Program} {f : Field} {fs : List Field} {off : Nat} {a : Kd α} {b : Kd β} {oka : α → Prop} {okb : β → Prop} (ho : f.offset = off) (hs : P.cellsOf f.type = a.sz) (h : Opens P f.type a oka)
    (hr : OpensAt P fs (off + a.sz) b okb) : OpensAt P (f :: fs) off (Kd.pair a b) (fun x => oka x.1 ∧ okb x.2) := by
  intro H enc w base spare held n cs hl hf
  obtain ⟨x, hx⟩ := hf f (by simp)
  rw [ho, hs] at hx
  obtain ⟨y, hy, oy⟩ := h _ _ _ _ _ _ _ _ _ hx
  have hl' : cs.length = (off + a.sz) + b.sz := by rw [hl]; show off + (a.sz + b.sz) = _; omega
  obtain ⟨z, hz, oz⟩ := hr H enc w base spare held n cs hl' (fun g hg => hf g (by simp [hg]))
  refine ⟨(y, z), ⟨_, _, ?_, hy, hz⟩, oy, oz⟩
  rw [← List.drop_drop]
  exact (List.take_append_drop _ _).symm
theorem Opens.struct {α : Type} {P : Program} {t : TypeId} {fs : List Field} {d : Kd α} {ok : α → Prop} (ht : P.underlying t = some (.struct (List.toArray fs))) (hs : P.cellsOf t = d.sz) (h : OpensAt P fs 0 d ok) : Opens P t d ok := by
  intro H enc w base spare held fuel cs x hx
  obtain ⟨xs, n, _, _, hl, hlen, hf⟩ := DataW.trod_struct ht hx
  obtain ⟨y, hy, oy⟩ := h H enc w base spare held n cs (by omega) (fun f hm => by
    obtain ⟨i, hi⟩ := List.getElem?_of_mem hm
    have hi' : (List.toArray fs)[i]? = some f := by simpa using hi
    have h1 := hf i f hi'
    have hlt : i < xs.length := by
      have := (Array.getElem?_eq_some_iff.1 hi').1
      omega
    rw [List.getElem?_eq_getElem hlt] at h1
    exact ⟨_, h1⟩)
  exact ⟨y, by simpa using hy, oy⟩
theorem Opens.iso {α β : Type} {P : Program} {t : TypeId} {d : Kd α} {ok : α → Prop} (f : β → α) (g : α → β) (hg : ∀ x, f (g x) = x) (h : Opens P t d ok) : Opens P t (Kd.iso d f) (fun y => ok (f y)) := by
  intro H enc w base spare held fuel cs x hx
  obtain ⟨y, hy, o⟩ := h H enc w base spare held fuel cs x hx
  refine ⟨g y, ?_, ?_⟩
  · show d.K w (f (g y)) cs
    rw [hg]
    exact hy
  · show ok (f (g y))
    rw [hg]
    exact o
theorem Opens.at_struct {α : Type} {P : Program} {t : TypeId} {d : Kd α} {ok : α → Prop} (h : Opens P t d ok) {H : Type} {enc : TypeId × Value → H} {w : World} {base : Nat} {spare : Nat → Bool} {held : Bool} {v : Value} {x : DataW H} {ps : List MemPlace}
    {fs : Array Field} {r : Reach} {b0 : Nat} (hu : P.underlying t = some (.struct fs)) (hv : Value.okWide P w r b0 t v) (hx : DataW.Trod enc P w base spare held t v x ps) : ∃ y cs, v = .agg (List.toArray cs) ∧ d.K w y cs ∧ ok y := by
  obtain ⟨cs, rfl, _⟩ := okWide_struct hu hv
  obtain ⟨fuel, hf⟩ := hx
  obtain ⟨y, hK, o⟩ := h _ _ _ _ _ _ _ _ _ hf
  exact ⟨y, cs.toList, by simp, by simpa [Value.cells] using hK, o⟩
end Go.Proofs.Ythbcnakmnbilhaa.Rd
