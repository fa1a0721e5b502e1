/- A part of the proof that the law FnExactMachineNew holds for every input. -/
import Derived.ProofKit
import Derived.DataElems
import Derived.ChangeArms
import Derived.SizedLaws
import Derived.Test.YtobachfngmpeiaaZFnExactMachineNewa22
namespace Go.Proofs.Ytobachfngmpeiaa.Pure
open Go.RowKit Go.Proofs.Ytobachfngmpeiaa Go.Proofs.Ytobachfngmpeiaa.PFnExactMachineNew Go.Proofs.YtobachfngmpeiaaW.PrintWords Go.Proofs.YtobachfngmpeiaaW.PrintLast Go.Proofs.Ytobachfngmpeiaa.Lp
set_option linter.unusedVariables false
set_option linter.unusedSimpArgs false
theorem eqIntS_ev (a b : List Int) (h : a.length ≤ 9223372036854775807) : Ev (fun k => laws_eqIntS.f k a b) (decide (a = b)) := by
  by_cases hl : a.length = b.length
  · have key := count_up (L := fun j k => laws_eqIntS.l0 k a b (j : Int)) (R := fun j => agree a b j) (n := a.length)
      (Ev.one fun k => by simp [laws_eqIntS.l0, agree_end hl])
      (fun j hj ih => by
        by_cases e : a[j] = b[j]
        · exact Ev.step (fun k => by
            simp only [laws_eqIntS.l0]
            rw [if_pos (by omega), if_pos (by omega), if_pos (by omega), if_pos (by rw [rd_get hj, rd_get (by omega), e]), wrapS hj (by omega)]) (by rw [agree_step hj (by omega) e]; exact ih)
        · exact Ev.one fun k => by
            simp only [laws_eqIntS.l0]
            rw [if_pos (by omega), if_pos (by omega), if_pos (by omega), if_neg (by rw [rd_get hj, rd_get (by omega)]; exact e), agree_no hj (by omega) e])
    refine Ev.congr (fun k => ?_) (key 0 (Nat.zero_le _))
    unfold laws_eqIntS.f
    rw [if_pos (by omega)]
    rfl
  · refine Ev.all fun k => ?_
    unfold laws_eqIntS.f
    rw [if_neg (by omega), decide_eq_false (fun e => hl (by rw [e]))]
theorem eqIntS_self (a : List Int) (h : a.length ≤ 9223372036854775807) : Ev (fun k => laws_eqIntS.f k a a) true := by
  have := eqIntS_ev a a h
  simpa using this
def wiWrite (x : S170) : Nat := x.f1.length
def wiWriteS (xs : (List S170)) : Nat := (xs.length + total wiWrite xs)
theorem eqWrite_self (a_0 : Int) (a_1 : (List Int)) (h : a_1.length ≤ 1048576) : Ev (fun k => laws_eqWrite.f k a_0 a_1 a_0 a_1) true := by
  simp only [laws_eqWrite.f, eq_self, if_true, bne_self_eq_false, Bool.false_eq_true, if_false]
  refine Ev.bind (eqIntS_self a_1 (by omega)) ?_
  try simp only [eq_self, if_true, bne_self_eq_false, Bool.false_eq_true, if_false]
  exact Ev.now _
theorem eqWriteS_self (xs : (List S170)) (h : (xs.length + total wiWrite xs) ≤ 1048576) : Ev (fun k => laws_eqWriteS.f k xs xs) true := by
  have rd_e : ∀ (j : Nat) (hj : j < xs.length), rd_T170 xs (j : Int) = xs[j] := fun j hj => by simp [rd_T170, List.getD_eq_getElem?_getD, hj]
  have key := yes_loop (L := fun j k => laws_eqWriteS.l0 k xs xs (j : Int)) xs.length true (Ev.one fun k => by simp only [laws_eqWriteS.l0]; rw [if_neg (by omega)])
    (fun j hj ih => by
      refine Ev.step (fun k => by simp only [laws_eqWriteS.l0]; rw [if_pos (by omega), if_pos (by omega), if_pos (by omega), rd_e j hj]) (Ev.bind (eqWrite_self (xs[j].f0) (xs[j].f1) (by have := total_mem wiWrite (List.getElem_mem hj); have h2 : xs[j].f1.length = wiWrite xs[j] := rfl; omega)) ?_)
      refine Ev.ite_pos rfl ?_
      rw [wrapS hj (by omega)]
      exact ih)
  refine Ev.congr (fun k => ?_) key
  unfold laws_eqWriteS.f
  rw [if_pos rfl]
  rfl
theorem eqWriteSS_self (xs : (List (List S170))) (h : (xs.length + total wiWriteS xs) ≤ 1048576) : Ev (fun k => laws_eqWriteSS.f k xs xs) true := by
  have rd_e : ∀ (j : Nat) (hj : j < xs.length), rd_L7 xs (j : Int) = xs[j] := fun j hj => by simp [rd_L7, List.getD_eq_getElem?_getD, hj]
  have key := yes_loop (L := fun j k => laws_eqWriteSS.l0 k xs xs (j : Int)) xs.length true (Ev.one fun k => by simp only [laws_eqWriteSS.l0]; rw [if_neg (by omega)])
    (fun j hj ih => by
      refine Ev.step (fun k => by simp only [laws_eqWriteSS.l0]; rw [if_pos (by omega), if_pos (by omega), if_pos (by omega), rd_e j hj]) (Ev.bind (eqWriteS_self xs[j] (by have := total_mem wiWriteS (List.getElem_mem hj); have h2 : (xs[j].length + total wiWrite xs[j]) = wiWriteS xs[j] := rfl; omega)) ?_)
      refine Ev.ite_pos rfl ?_
      rw [wrapS hj (by omega)]
      exact ih)
  refine Ev.congr (fun k => ?_) key
  unfold laws_eqWriteSS.f
  rw [if_pos rfl]
  rfl
theorem eqMemory_self (a_0 : (List (List S170))) (h : (a_0.length + total wiWriteS a_0) ≤ 1048576) : Ev (fun k => laws_eqMemory.f k a_0 a_0) true := by
  simp only [laws_eqMemory.f, eq_self, if_true, bne_self_eq_false, Bool.false_eq_true, if_false]
  refine Ev.bind (eqWriteSS_self a_0 h) ?_
  try simp only [eq_self, if_true, bne_self_eq_false, Bool.false_eq_true, if_false]
  exact Ev.now _
def cvStep (x : S177) : S175 := ⟨x.f0, x.f1, x.f2, x.f3, x.f4⟩
def cvStepS (xs : (List S177)) : (List S175) := xs.map cvStep
def wlStepS (xs : (List S177)) : Nat := xs.length
def wiStepS (xs : (List S175)) : Nat := xs.length
theorem w_cvStepS (xs : (List S177)) : wiStepS (cvStepS xs) = wlStepS xs := by simp [wiStepS, wlStepS, cvStepS]
def wiCore (x : S123) : Nat := x.f1.length + x.f2.length
theorem szStepS_ev (l : (List S177)) (a : Int) (h0 : 0 ≤ a) (hB : a ≤ 1048576) (hl : l.length ≤ 9223372036854775807) : Ev (fun k => laws_szStepS.f l a) (left? l.length a) := by
  refine Ev.all fun k => ?_
  unfold laws_szStepS.f left?
  rw [wrap_in (by omega) (by omega)]
  by_cases h : (l.length : Int) ≤ a
  · rw [if_neg (by omega), if_pos h]
  · rw [if_pos (by omega), if_neg h]
theorem szStepSS_ev (xs : (List (List S177))) (a : Int) (h0 : 0 ≤ a) (hB : a ≤ 1048576) (hfin : (xs.length ≤ 9223372036854775807 ∧ ∀ y ∈ xs, y.length ≤ 9223372036854775807)) : Ev (fun k => laws_szStepSS.f k xs a) (left? (xs.length + total wlStepS xs) a) := by
  obtain ⟨hl, hfin⟩ := hfin
  have rd_e : ∀ (j : Nat) (hj : j < xs.length), rd_L2 xs (j : Int) = xs[j] := fun j hj => by simp [rd_L2, List.getD_eq_getElem?_getD, hj]
  by_cases h : (xs.length : Int) ≤ a
  · have key := sz_loop (L := fun j a k => laws_szStepSS.l0 k xs a (j : Int)) xs wlStepS 1048576 (fun a => Ev.one fun k => by simp only [laws_szStepSS.l0]; rw [if_neg (by omega)])
      (fun j hj a hB hw r ih => by
        have h0 : 0 ≤ a := by omega
        have hw' : ((xs[j].length : Nat) : Int) ≤ a := hw
        refine Ev.step (fun k => by simp only [laws_szStepSS.l0]; rw [if_pos (by omega), if_pos (by omega), rd_e j hj]) (Ev.bind (szStepS_ev xs[j] a h0 hB (hfin xs[j] (List.getElem_mem hj))) ?_)
        rw [left?_yes hw', wrapS hj hl]
        exact Ev.ite_neg (by omega) ih)
      (fun j hj a h0 hB hw => by
        have hw' : ¬ ((xs[j].length : Nat) : Int) ≤ a := by have : a < (wlStepS xs[j] : Int) := hw; intro c; exact absurd (show (wlStepS xs[j] : Int) ≤ a from c) (by omega)
        refine Ev.step (fun k => by simp only [laws_szStepSS.l0]; rw [if_pos (by omega), if_pos (by omega), rd_e j hj]) (Ev.bind (szStepS_ev xs[j] a h0 hB (hfin xs[j] (List.getElem_mem hj))) ?_)
        rw [left?_no hw']
        exact Ev.ite_pos (by omega) (Ev.now _)) (a - (xs.length : Int)) (by omega) (by omega)
    rw [left?_add h] at key
    refine Ev.congr (fun k => ?_) key
    unfold laws_szStepSS.f
    rw [wrap_in (by omega) (by omega), if_neg (by omega)]
    rfl
  · refine Ev.all fun k => ?_
    unfold laws_szStepSS.f
    rw [wrap_in (by omega) (by omega), if_pos (by omega), left?_no (by omega)]
theorem toStep_ev (a_0 : Int) (a_1 : Int) (a_2 : Int) (a_3 : Int) (a_4 : Int)  : Ev (fun k => laws_toStep.f a_0 a_1 a_2 a_3 a_4) (a_0, a_1, a_2, a_3, a_4) := by
  exact Ev.all fun k => rfl
theorem toStepS_ev (xs : (List S177)) (h : xs.length ≤ 1048576) : Ev (fun k => laws_toStepS.f k xs) (xs.map cvStep) := by
  have rd_e : ∀ (j : Nat) (hj : j < xs.length), rd_T177 xs (j : Int) = xs[j] := fun j hj => by simp [rd_T177, List.getD_eq_getElem?_getD, hj]
  have key := to_loop (L := fun j ys k => laws_toStepS.l0 k xs ys (j : Int)) xs cvStep z175 (fun ys _ => Ev.one fun k => by simp only [laws_toStepS.l0]; rw [if_neg (by omega)])
    (fun j hj ys hy r ih => by
      refine Ev.step (fun k => by simp only [laws_toStepS.l0]; rw [if_pos (by omega), if_pos (by omega), rd_e j hj]) (Ev.bind (toStep_ev (xs[j].f0) (xs[j].f1) (xs[j].f2) (xs[j].f3) (xs[j].f4) ) ?_)
      refine Ev.ite_pos (by omega) ?_
      rw [wrapS hj (by omega), Int.toNat_natCast]
      exact ih)
  refine Ev.congr (fun k => ?_) key
  unfold laws_toStepS.f
  rw [if_pos (by omega), if_pos (by simp; omega)]
  simp only [Int.toNat_natCast]
  rfl
theorem toStepSS_ev (xs : (List (List S177))) (h : (xs.length + total wlStepS xs) ≤ 1048576) : Ev (fun k => laws_toStepSS.f k xs) (xs.map cvStepS) := by
  have rd_e : ∀ (j : Nat) (hj : j < xs.length), rd_L2 xs (j : Int) = xs[j] := fun j hj => by simp [rd_L2, List.getD_eq_getElem?_getD, hj]
  have key := to_loop (L := fun j ys k => laws_toStepSS.l0 k xs ys (j : Int)) xs cvStepS [] (fun ys _ => Ev.one fun k => by simp only [laws_toStepSS.l0]; rw [if_neg (by omega)])
    (fun j hj ys hy r ih => by
      refine Ev.step (fun k => by simp only [laws_toStepSS.l0]; rw [if_pos (by omega), if_pos (by omega), rd_e j hj]) (Ev.bind (toStepS_ev xs[j] (by have := total_mem wlStepS (List.getElem_mem hj); have h2 : xs[j].length = wlStepS xs[j] := rfl; omega)) ?_)
      refine Ev.ite_pos (by omega) ?_
      rw [wrapS hj (by omega), Int.toNat_natCast]
      exact ih)
  refine Ev.congr (fun k => ?_) key
  unfold laws_toStepSS.f
  rw [if_pos (by omega), if_pos (by simp; omega)]
  simp only [Int.toNat_natCast]
  rfl
theorem eqStep_self (a_0 : Int) (a_1 : Int) (a_2 : Int) (a_3 : Int) (a_4 : Int)  : Ev (fun k => laws_eqStep.f a_0 a_1 a_2 a_3 a_4 a_0 a_1 a_2 a_3 a_4) true := by
  exact Ev.all fun k => by simp [laws_eqStep.f]
theorem eqStepS_self (xs : (List S175)) (h : xs.length ≤ 1048576) : Ev (fun k => laws_eqStepS.f k xs xs) true := by
  have rd_e : ∀ (j : Nat) (hj : j < xs.length), rd_T175 xs (j : Int) = xs[j] := fun j hj => by simp [rd_T175, List.getD_eq_getElem?_getD, hj]
  have key := yes_loop (L := fun j k => laws_eqStepS.l0 k xs xs (j : Int)) xs.length true (Ev.one fun k => by simp only [laws_eqStepS.l0]; rw [if_neg (by omega)])
    (fun j hj ih => by
      refine Ev.step (fun k => by simp only [laws_eqStepS.l0]; rw [if_pos (by omega), if_pos (by omega), if_pos (by omega), rd_e j hj]) (Ev.bind (eqStep_self (xs[j].f0) (xs[j].f1) (xs[j].f2) (xs[j].f3) (xs[j].f4) ) ?_)
      refine Ev.ite_pos rfl ?_
      rw [wrapS hj (by omega)]
      exact ih)
  refine Ev.congr (fun k => ?_) key
  unfold laws_eqStepS.f
  rw [if_pos rfl]
  rfl
theorem eqStepSS_self (xs : (List (List S175))) (h : (xs.length + total wiStepS xs) ≤ 1048576) : Ev (fun k => laws_eqStepSS.f k xs xs) true := by
  have rd_e : ∀ (j : Nat) (hj : j < xs.length), rd_L4 xs (j : Int) = xs[j] := fun j hj => by simp [rd_L4, List.getD_eq_getElem?_getD, hj]
  have key := yes_loop (L := fun j k => laws_eqStepSS.l0 k xs xs (j : Int)) xs.length true (Ev.one fun k => by simp only [laws_eqStepSS.l0]; rw [if_neg (by omega)])
    (fun j hj ih => by
      refine Ev.step (fun k => by simp only [laws_eqStepSS.l0]; rw [if_pos (by omega), if_pos (by omega), if_pos (by omega), rd_e j hj]) (Ev.bind (eqStepS_self xs[j] (by have := total_mem wiStepS (List.getElem_mem hj); have h2 : xs[j].length = wiStepS xs[j] := rfl; omega)) ?_)
      refine Ev.ite_pos rfl ?_
      rw [wrapS hj (by omega)]
      exact ih)
  refine Ev.congr (fun k => ?_) key
  unfold laws_eqStepSS.f
  rw [if_pos rfl]
  rfl
theorem eqCore_self (a_0 : Int) (a_1 : (List Int)) (a_2 : (List Int)) (a_3 : Int) (h0 : a_1.length ≤ 1048576) (h1 : a_2.length ≤ 1048576) : Ev (fun k => laws_eqCore.f k a_0 a_1 a_2 a_3 a_0 a_1 a_2 a_3) true := by
  simp only [laws_eqCore.f, eq_self, if_true, bne_self_eq_false, Bool.false_eq_true, if_false]
  refine Ev.bind (eqIntS_self a_1 (by omega)) ?_
  try simp only [eq_self, if_true, bne_self_eq_false, Bool.false_eq_true, if_false]
  refine Ev.bind (eqIntS_self a_2 (by omega)) ?_
  try simp only [eq_self, if_true, bne_self_eq_false, Bool.false_eq_true, if_false]
  exact Ev.now _
theorem eqCoreS_self (xs : (List S123)) (h : (xs.length + total wiCore xs) ≤ 1048576) : Ev (fun k => laws_eqCoreS.f k xs xs) true := by
  have rd_e : ∀ (j : Nat) (hj : j < xs.length), rd_T123 xs (j : Int) = xs[j] := fun j hj => by simp [rd_T123, List.getD_eq_getElem?_getD, hj]
  have key := yes_loop (L := fun j k => laws_eqCoreS.l0 k xs xs (j : Int)) xs.length true (Ev.one fun k => by simp only [laws_eqCoreS.l0]; rw [if_neg (by omega)])
    (fun j hj ih => by
      refine Ev.step (fun k => by simp only [laws_eqCoreS.l0]; rw [if_pos (by omega), if_pos (by omega), if_pos (by omega), rd_e j hj]) (Ev.bind (eqCore_self (xs[j].f0) (xs[j].f1) (xs[j].f2) (xs[j].f3) (by have := total_mem wiCore (List.getElem_mem hj); have h2 : xs[j].f1.length + xs[j].f2.length = wiCore xs[j] := rfl; omega) (by have := total_mem wiCore (List.getElem_mem hj); have h2 : xs[j].f1.length + xs[j].f2.length = wiCore xs[j] := rfl; omega)) ?_)
      refine Ev.ite_pos rfl ?_
      rw [wrapS hj (by omega)]
      exact ih)
  refine Ev.congr (fun k => ?_) key
  unfold laws_eqCoreS.f
  rw [if_pos rfl]
  rfl
theorem eqNote_self (a_0 : Int) (a_1 : Int)  : Ev (fun k => laws_eqNote.f a_0 a_1 a_0 a_1) true := by
  exact Ev.all fun k => by simp [laws_eqNote.f]
theorem eqNoteS_self (xs : (List S35)) (h : xs.length ≤ 1048576) : Ev (fun k => laws_eqNoteS.f k xs xs) true := by
  have rd_e : ∀ (j : Nat) (hj : j < xs.length), rd_T35 xs (j : Int) = xs[j] := fun j hj => by simp [rd_T35, List.getD_eq_getElem?_getD, hj]
  have key := yes_loop (L := fun j k => laws_eqNoteS.l0 k xs xs (j : Int)) xs.length true (Ev.one fun k => by simp only [laws_eqNoteS.l0]; rw [if_neg (by omega)])
    (fun j hj ih => by
      refine Ev.step (fun k => by simp only [laws_eqNoteS.l0]; rw [if_pos (by omega), if_pos (by omega), if_pos (by omega), rd_e j hj]) (Ev.bind (eqNote_self (xs[j].f0) (xs[j].f1) ) ?_)
      refine Ev.ite_pos rfl ?_
      rw [wrapS hj (by omega)]
      exact ih)
  refine Ev.congr (fun k => ?_) key
  unfold laws_eqNoteS.f
  rw [if_pos rfl]
  rfl
theorem eqMachine_self (a_0 : (List (List S175))) (a_1 : (List S123)) (a_2_0 : (List (List S170))) (a_3 : (List S35)) (h0 : (a_0.length + total wiStepS a_0) ≤ 1048576) (h1 : (a_1.length + total wiCore a_1) ≤ 1048576) (h2 : (a_2_0.length + total wiWriteS a_2_0) ≤ 1048576) (h3 : a_3.length ≤ 1048576) : Ev (fun k => laws_eqMachine.f k a_0 a_1 a_2_0 a_3 a_0 a_1 a_2_0 a_3) true := by
  simp only [laws_eqMachine.f, eq_self, if_true, bne_self_eq_false, Bool.false_eq_true, if_false]
  refine Ev.bind (eqStepSS_self a_0 h0) ?_
  try simp only [eq_self, if_true, bne_self_eq_false, Bool.false_eq_true, if_false]
  refine Ev.bind (eqCoreS_self a_1 h1) ?_
  try simp only [eq_self, if_true, bne_self_eq_false, Bool.false_eq_true, if_false]
  refine Ev.bind (eqMemory_self a_2_0 h2) ?_
  try simp only [eq_self, if_true, bne_self_eq_false, Bool.false_eq_true, if_false]
  refine Ev.bind (eqNoteS_self a_3 h3) ?_
  try simp only [eq_self, if_true, bne_self_eq_false, Bool.false_eq_true, if_false]
  exact Ev.now _
def inn (a lo hi : Int) : Bool := decide (lo ≤ a ∧ a ≤ hi)
theorem spec_l1In_eq (a lo hi : Int) : spec_l1In.f a lo hi = some (inn a lo hi) := by
  unfold spec_l1In.f inn
  by_cases h : a ≥ lo
  · rw [if_pos h]; congr 1; simp; omega
  · rw [if_neg h, decide_eq_false (by omega)]
theorem impl_within_eq (a lo hi : Int) : impl_within.f a lo hi = some (inn a lo hi) := by
  unfold impl_within.f inn
  by_cases h : a ≥ lo
  · rw [if_pos h]; congr 1; simp; omega
  · rw [if_neg h, decide_eq_false (by omega)]
def viewIn (m : List (List S170)) (v : List Int) (i : Nat) : Bool := inn (v.getD i 0) 0 (((m.getD i []).length : Int) - 1)
def viewOk (m : List (List S170)) (v : List Int) : Bool := decide (v.length = m.length) && (List.range v.length).all (viewIn m v)
theorem rd_cell (m : List (List S170)) (j : Nat) : rd_L7 m (j : Int) = m.getD j [] := by simp [rd_L7]
theorem rd_int (v : List Int) (j : Nat) : rd v (j : Int) = v.getD j 0 := by simp [rd]
def Small (m : List (List S170)) : Prop := m.length ≤ 1048576 ∧ ∀ c ∈ m, c.length ≤ 1048576 ∧ ∀ w ∈ c, w.f1.length ≤ 1048576
theorem Small.at {m : List (List S170)} (h : Small m) (j : Nat) : (m.getD j []).length ≤ 1048576 := by
  rw [List.getD_eq_getElem?_getD]
  cases e : m[j]? with
  | none => simp
  | some c => exact (h.2 c (List.mem_of_getElem? e)).1
theorem range_get {n j : Nat} (h : j < (List.range n).length) : (List.range n)[j] = j := by simp
theorem spec_ViewOk_ev (m : List (List S170)) (v : List Int) (hm : Small m) (hv : v.length ≤ 1048576) : Ev (fun k => spec_ViewOk.f k m v) (viewOk m v) := by
  by_cases hl : v.length = m.length
  · have key := all_loop (L := fun j k => spec_ViewOk.l0 k v (j : Int) m) (List.range v.length) (viewIn m v) (b := true) (Ev.one fun k => by
        simp only [spec_ViewOk.l0]
        rw [if_neg (by simp)])
      (fun j hj hp r ih => by
        rw [List.length_range] at hj
        rw [range_get] at hp
        have h1 := hm.at j
        refine Ev.step (fun k => ?_) ih
        simp only [spec_ViewOk.l0]
        rw [if_pos (by omega), if_pos (by omega), if_pos (by omega), rd_int, rd_cell, wrap_in (by omega) (by omega), spec_l1In_eq, Option.bind_some, if_pos (show inn (v.getD j 0) 0 (((m.getD j []).length : Int) - 1) = true from hp), wrapS hj (by omega)])
      (fun j hj hp => by
        rw [List.length_range] at hj
        rw [range_get] at hp
        have h1 := hm.at j
        refine Ev.one fun k => ?_
        simp only [spec_ViewOk.l0]
        rw [if_pos (by omega), if_pos (by omega), if_pos (by omega), rd_int, rd_cell, wrap_in (by omega) (by omega), spec_l1In_eq, Option.bind_some, if_neg (show ¬ inn (v.getD j 0) 0 (((m.getD j []).length : Int) - 1) = true from fun e => by have e' : viewIn m v j = true := e; rw [hp] at e'; cases e')])
    rw [Bool.and_true] at key
    refine Ev.congr (fun k => ?_) (Ev.val (by rw [viewOk, decide_eq_true hl, Bool.true_and]) key)
    unfold spec_ViewOk.f
    rw [if_pos (by omega)]
    rfl
  · refine Ev.all fun k => ?_
    unfold spec_ViewOk.f
    rw [if_neg (by omega), viewOk, decide_eq_false hl, Bool.false_and]
theorem impl_ViewOk_ev (m : List (List S170)) (v : List Int) (hm : Small m) (hv : v.length ≤ 1048576) : Ev (fun k => impl_ViewOk.f k m v) (viewOk m v) := by
  by_cases hl : v.length = m.length
  · have key := all_loop (L := fun j k => impl_ViewOk.l0 k v (v.length : Int) (j : Int) m) (List.range v.length) (viewIn m v) (b := true) (Ev.one fun k => by
        simp only [impl_ViewOk.l0]
        rw [if_neg (by simp)])
      (fun j hj hp r ih => by
        rw [List.length_range] at hj
        rw [range_get] at hp
        have h1 := hm.at j
        refine Ev.step (fun k => ?_) ih
        simp only [impl_ViewOk.l0]
        rw [if_pos (by omega), if_pos (by omega), if_pos (by omega), if_pos (by omega), rd_int, rd_cell, wrap_in (by omega) (by omega), impl_within_eq, Option.bind_some, if_pos (show inn (v.getD j 0) 0 (((m.getD j []).length : Int) - 1) = true from hp), wrapS hj (by omega)])
      (fun j hj hp => by
        rw [List.length_range] at hj
        rw [range_get] at hp
        have h1 := hm.at j
        refine Ev.one fun k => ?_
        simp only [impl_ViewOk.l0]
        rw [if_pos (by omega), if_pos (by omega), if_pos (by omega), if_pos (by omega), rd_int, rd_cell, wrap_in (by omega) (by omega), impl_within_eq, Option.bind_some, if_neg (show ¬ inn (v.getD j 0) 0 (((m.getD j []).length : Int) - 1) = true from fun e => by have e' : viewIn m v j = true := e; rw [hp] at e'; cases e')])
    rw [Bool.and_true] at key
    refine Ev.congr (fun k => ?_) (Ev.val (by rw [viewOk, decide_eq_true hl, Bool.true_and]) key)
    unfold impl_ViewOk.f
    rw [if_pos (by omega)]
    rfl
  · refine Ev.all fun k => ?_
    unfold impl_ViewOk.f
    rw [if_neg (by omega), viewOk, decide_eq_false hl, Bool.false_and]
def cellIn (m : List (List S170)) (c : List S170) : Bool := inn (c.length : Int) 1 4000 && c.all (fun w => viewOk m w.f1)
def memOk (m : List (List S170)) : Bool := m.all (cellIn m) && decide (m.length = 24)
theorem rd_write (l : List S170) (j : Nat) (h : j < l.length) : rd_T170 l (j : Int) = l[j] := by simp [rd_T170, List.getD_eq_getElem?_getD, h]
theorem rd_cell' (m : List (List S170)) (j : Nat) (h : j < m.length) : rd_L7 m (j : Int) = m[j] := by simp [rd_L7, List.getD_eq_getElem?_getD, h]
theorem spec_MemoryOk_ev (m : List (List S170)) (hm : Small m) : Ev (fun k => spec_MemoryOk.f k m) (memOk m) := by
  have hl := hm.1
  by_cases h24 : m.length = 24
  case neg =>
    refine Ev.all fun k => ?_
    unfold spec_MemoryOk.f
    rw [if_neg (by omega), memOk, decide_eq_false h24, Bool.and_false]
  simp only [spec_MemoryOk.f]
  refine Ev.ite_pos (by omega) ?_
  refine all_loop (L := fun j k => spec_MemoryOk.l0 k (j : Int) m) m (cellIn m) ?_ (fun j hj hp r ih => ?_) (fun j hj hp => ?_)
  · refine Ev.one fun k => ?_
    simp only [spec_MemoryOk.l0]
    rw [if_neg (by omega), decide_eq_true h24]
  · have hc := hm.2 m[j] (List.getElem_mem hj)
    have h1 : inn (m[j].length : Int) 1 4000 = true := by unfold cellIn at hp; rw [Bool.and_eq_true] at hp; exact hp.1
    have h2 : m[j].all (fun w => viewOk m w.f1) = true := by unfold cellIn at hp; rw [Bool.and_eq_true] at hp; exact hp.2
    refine Ev.step (fun k => by simp only [spec_MemoryOk.l0, spec_l1In_eq, Option.bind_some]; rw [if_pos (by omega), if_pos (by omega), if_pos (by omega), rd_cell' m j hj, if_pos h1]) ?_
    refine yes_all (L := fun i k => spec_MemoryOk.l1 k (j : Int) (i : Int) m) m[j] (fun w => viewOk m w.f1) h2 ?_ (fun i hi hq ih' => ?_)
    · exact Ev.step (fun k => by simp only [spec_MemoryOk.l1]; rw [if_pos (by omega), if_pos (by omega), rd_cell' m j hj, if_neg (by omega), wrapS hj (by omega)]) ih
    · refine Ev.step (fun k => by simp only [spec_MemoryOk.l1]; rw [if_pos (by omega), if_pos (by omega), rd_cell' m j hj, if_pos (by omega), if_pos (by omega), rd_write _ i hi]) (Ev.bind (spec_ViewOk_ev m _ hm (hc.2 _ (List.getElem_mem hi))) ?_)
      refine Ev.ite_pos hq ?_
      rw [wrapS hi (by omega)]
      exact ih'
  · have hc := hm.2 m[j] (List.getElem_mem hj)
    by_cases h1 : inn (m[j].length : Int) 1 4000 = true
    · have h2 : m[j].all (fun w => viewOk m w.f1) = false := by unfold cellIn at hp; rwa [h1, Bool.true_and] at hp
      refine Ev.step (fun k => by simp only [spec_MemoryOk.l0, spec_l1In_eq, Option.bind_some]; rw [if_pos (by omega), if_pos (by omega), if_pos (by omega), rd_cell' m j hj, if_pos h1]) ?_
      refine no_all (L := fun i k => spec_MemoryOk.l1 k (j : Int) (i : Int) m) m[j] (fun w => viewOk m w.f1) h2 (fun i hi hq ih' => ?_) (fun i hi hq => ?_)
      · refine Ev.step (fun k => by simp only [spec_MemoryOk.l1]; rw [if_pos (by omega), if_pos (by omega), rd_cell' m j hj, if_pos (by omega), if_pos (by omega), rd_write _ i hi]) (Ev.bind (spec_ViewOk_ev m _ hm (hc.2 _ (List.getElem_mem hi))) ?_)
        refine Ev.ite_pos hq ?_
        rw [wrapS hi (by omega)]
        exact ih'
      · refine Ev.step (fun k => by simp only [spec_MemoryOk.l1]; rw [if_pos (by omega), if_pos (by omega), rd_cell' m j hj, if_pos (by omega), if_pos (by omega), rd_write _ i hi]) (Ev.bind (spec_ViewOk_ev m _ hm (hc.2 _ (List.getElem_mem hi))) ?_)
        exact Ev.ite_neg (by rw [hq]; simp) (Ev.now _)
    · refine Ev.one fun k => ?_
      simp only [spec_MemoryOk.l0, spec_l1In_eq, Option.bind_some]
      rw [if_pos (by omega), if_pos (by omega), if_pos (by omega), rd_cell' m j hj, if_neg h1]
theorem impl_MemoryOk_ev (m : List (List S170)) (hm : Small m) : Ev (fun k => impl_MemoryOk.f k m) (memOk m) := by
  have hl := hm.1
  refine all_loop (L := fun j k => impl_MemoryOk.l0 k m (m.length : Int) (j : Int) m) m (cellIn m) ?_ (fun j hj hp r ih => ?_) (fun j hj hp => ?_)
  · refine Ev.one fun k => ?_
    simp only [impl_MemoryOk.l0]
    rw [if_neg (by omega)]
    congr 1
    rw [Bool.eq_iff_iff]
    simp
    omega
  · have hc := hm.2 m[j] (List.getElem_mem hj)
    have h1 : inn (m[j].length : Int) 1 4000 = true := by unfold cellIn at hp; rw [Bool.and_eq_true] at hp; exact hp.1
    have h2 : m[j].all (fun w => viewOk m w.f1) = true := by unfold cellIn at hp; rw [Bool.and_eq_true] at hp; exact hp.2
    refine Ev.step (fun k => by simp only [impl_MemoryOk.l0, impl_within_eq, Option.bind_some]; rw [if_pos (by omega), if_pos (by omega), if_pos (by omega), rd_cell' m j hj, if_pos h1]) ?_
    refine yes_all (L := fun i k => impl_MemoryOk.l1 k m (m.length : Int) (j : Int) m[j] (m[j].length : Int) (i : Int) m) m[j] (fun w => viewOk m w.f1) h2 ?_ (fun i hi hq ih' => ?_)
    · exact Ev.step (fun k => by simp only [impl_MemoryOk.l1]; rw [if_neg (by omega), wrapS hj (by omega)]) ih
    · refine Ev.step (fun k => by simp only [impl_MemoryOk.l1]; rw [if_pos (by omega), if_pos (by omega), if_pos (by omega), rd_write _ i hi]) (Ev.bind (impl_ViewOk_ev m _ hm (hc.2 _ (List.getElem_mem hi))) ?_)
      refine Ev.ite_pos hq ?_
      rw [wrapS hi (by omega)]
      exact ih'
  · have hc := hm.2 m[j] (List.getElem_mem hj)
    by_cases h1 : inn (m[j].length : Int) 1 4000 = true
    · have h2 : m[j].all (fun w => viewOk m w.f1) = false := by unfold cellIn at hp; rwa [h1, Bool.true_and] at hp
      refine Ev.step (fun k => by simp only [impl_MemoryOk.l0, impl_within_eq, Option.bind_some]; rw [if_pos (by omega), if_pos (by omega), if_pos (by omega), rd_cell' m j hj, if_pos h1]) ?_
      refine no_all (L := fun i k => impl_MemoryOk.l1 k m (m.length : Int) (j : Int) m[j] (m[j].length : Int) (i : Int) m) m[j] (fun w => viewOk m w.f1) h2 (fun i hi hq ih' => ?_) (fun i hi hq => ?_)
      · refine Ev.step (fun k => by simp only [impl_MemoryOk.l1]; rw [if_pos (by omega), if_pos (by omega), if_pos (by omega), rd_write _ i hi]) (Ev.bind (impl_ViewOk_ev m _ hm (hc.2 _ (List.getElem_mem hi))) ?_)
        refine Ev.ite_pos hq ?_
        rw [wrapS hi (by omega)]
        exact ih'
      · refine Ev.step (fun k => by simp only [impl_MemoryOk.l1]; rw [if_pos (by omega), if_pos (by omega), if_pos (by omega), rd_write _ i hi]) (Ev.bind (impl_ViewOk_ev m _ hm (hc.2 _ (List.getElem_mem hi))) ?_)
        exact Ev.ite_neg (by rw [hq]; simp) (Ev.now _)
    · refine Ev.one fun k => ?_
      simp only [impl_MemoryOk.l0, impl_within_eq, Option.bind_some]
      rw [if_pos (by omega), if_pos (by omega), if_pos (by omega), rd_cell' m j hj, if_neg h1]
def StepR (op r a b n p : Int) : Prop :=
  (0 ≤ r ∧ r ≤ 7) ∧ (0 ≤ b ∧ b ≤ 7) ∧ ((0 ≤ a ∧ a ≤ 7) ∨ (a = -1 ∧ (op = 5 ∨ op = 6 ∨ op = 7))) ∧
  ((op = 1 ∧ (-1000000000 ≤ n ∧ n ≤ 1000000000) ∧ a = 0 ∧ b = 0) ∨ ((op = 2 ∨ op = 3 ∨ op = 4) ∧ n = 0) ∨ (op = 5 ∧ (0 ≤ n ∧ n ≤ 23) ∧ b = 0) ∨
   ((op = 6 ∨ op = 7) ∧ (0 ≤ n ∧ n ≤ 23) ∧ r = 0) ∨ (op = 8 ∧ (0 ≤ n ∧ n ≤ 23) ∧ a = 0) ∨ (op = 9 ∧ r = 0 ∧ b = 0 ∧ n = 0) ∨
   (op = 10 ∧ (0 ≤ n ∧ n < p) ∧ r = 0 ∧ a = 0 ∧ b = 0) ∨ (op = 11 ∧ (0 ≤ n ∧ n < p) ∧ r = 0 ∧ b = 0) ∨ ((op = 12 ∨ op = 13) ∧ r = 0 ∧ a = 0 ∧ b = 0 ∧ n = 0))
instance (op r a b n p : Int) : Decidable (StepR op r a b n p) := by unfold StepR; infer_instance
def stepOk (op r a b n p : Int) : Bool := decide (StepR op r a b n p)
theorem op_cases (op : Int) : op = 1 ∨ op = 2 ∨ op = 3 ∨ op = 4 ∨ op = 5 ∨ op = 6 ∨ op = 7 ∨ op = 8 ∨ op = 9 ∨ op = 10 ∨ op = 11 ∨ op = 12 ∨ op = 13 ∨ (op < 1 ∨ 13 < op) := by omega
theorem spec_l7Reg_eq (a : Int) : spec_l7Reg.f a = some (inn a 0 7) := by simp [spec_l7Reg.f, spec_l1In_eq]
theorem spec_StepOk_ev (op r a b n p : Int) : Ev (fun k => spec_StepOk.f k op r a b n p) (stepOk op r a b n p) := by
  refine ⟨7, fun k hk => ?_⟩
  obtain ⟨m, rfl⟩ : ∃ m, k = m + 7 := ⟨k - 7, by omega⟩
  simp only [spec_StepOk.f, spec_StepOk.j0, spec_StepOk.j1, spec_StepOk.j2, spec_StepOk.j3, spec_StepOk.j4, spec_StepOk.j5, spec_l7Reg_eq, spec_l1In_eq, Option.bind_some, inn, stepOk, decide_eq_true_eq]
  rcases op_cases op with rfl | rfl | rfl | rfl | rfl | rfl | rfl | rfl | rfl | rfl | rfl | rfl | rfl | h
  case inr.inr.inr.inr.inr.inr.inr.inr.inr.inr.inr.inr.inr =>
    have h' : ¬ StepR op r a b n p := by unfold StepR; omega
    simp only [if_neg (show ¬ op = 1 by omega), if_neg (show ¬ op = 2 by omega), if_neg (show ¬ op = 3 by omega), if_neg (show ¬ op = 4 by omega), if_neg (show ¬ op = 5 by omega), if_neg (show ¬ op = 6 by omega), if_neg (show ¬ op = 7 by omega), if_neg (show ¬ op = 8 by omega), if_neg (show ¬ op = 9 by omega), if_neg (show ¬ op = 10 by omega), if_neg (show ¬ op = 11 by omega), if_neg (show ¬ op = 12 by omega), if_neg (show ¬ op = 13 by omega), decide_eq_false h']
    have h4 : (op == 4) = false := by simpa using (show ¬ op = 4 by omega)
    have h7 : (op == 7) = false := by simpa using (show ¬ op = 7 by omega)
    have h13 : (op == 13) = false := by simpa using (show ¬ op = 13 by omega)
    simp only [h4, h7, h13, Bool.false_eq_true, if_false]
    repeat' split
    all_goals rfl
  all_goals
    simp only [StepR]
    simp
    repeat' split
    all_goals first
      | (congr 1; rw [Bool.eq_iff_iff]; simp; omega)
      | (simp; omega)
theorem impl_isCell_eq (a : Int) : impl_isCell.f a = some (inn a 0 23) := by simp [impl_isCell.f, impl_within_eq]
theorem impl_StepOk_ev (op r a b n p : Int) : Ev (fun k => impl_StepOk.f k op r a b n p) (stepOk op r a b n p) := by
  refine ⟨10, fun k hk => ?_⟩
  obtain ⟨m, rfl⟩ : ∃ m, k = m + 10 := ⟨k - 10, by omega⟩
  simp only [impl_StepOk.f, impl_StepOk.j0, impl_StepOk.j1, impl_StepOk.j2, impl_StepOk.j3, impl_stepNamed.f, impl_stepNamed.j0, impl_stepNamed.j1, impl_isCell_eq, impl_within_eq, Option.bind_some, inn, stepOk, decide_eq_true_eq]
  rcases op_cases op with rfl | rfl | rfl | rfl | rfl | rfl | rfl | rfl | rfl | rfl | rfl | rfl | rfl | h
  case inr.inr.inr.inr.inr.inr.inr.inr.inr.inr.inr.inr.inr =>
    have h' : ¬ StepR op r a b n p := by unfold StepR; omega
    rw [if_neg (by omega), if_neg (by omega), decide_eq_false h', if_pos trivial]
  all_goals
    simp only [StepR]
    simp
    repeat' split
    all_goals first
      | (congr 1; rw [Bool.eq_iff_iff]; simp; omega)
      | (simp; omega)
def stepIn (p : Int) (x : S175) : Bool := stepOk x.f0 x.f1 x.f2 x.f3 x.f4 p
def lastStep (l : List S175) : Bool := decide ((l.getD (l.length - 1) z175).f0 = 10 ∨ (l.getD (l.length - 1) z175).f0 = 12 ∨ (l.getD (l.length - 1) z175).f0 = 13)
def codeOk (l : List S175) : Bool := inn (l.length : Int) 1 800 && (l.all (stepIn (l.length : Int)) && lastStep l)
theorem rd_step (l : List S175) (j : Nat) (h : j < l.length) : rd_T175 l (j : Int) = l[j] := by simp [rd_T175, List.getD_eq_getElem?_getD, h]
theorem last_step (l : List S175) : (if (l.getD (l.length - 1) z175).f0 = 10 then some true else if (l.getD (l.length - 1) z175).f0 = 12 then some true else some ((l.getD (l.length - 1) z175).f0 == 13)) = some (lastStep l) := by
  unfold lastStep
  generalize (l.getD (l.length - 1) z175).f0 = q
  by_cases h : q = 10
  · rw [if_pos h, decide_eq_true (.inl h)]
  · by_cases h' : q = 12
    · rw [if_neg h, if_pos h', decide_eq_true (.inr (.inl h'))]
    · rw [if_neg h, if_neg h']
      congr 1
      rw [Bool.eq_iff_iff]
      simp [h, h']
theorem rd_last_step (l : List S175) (h : 1 ≤ l.length) : rd_T175 l ((l.length : Int) - 1) = l.getD (l.length - 1) z175 := by
  rw [rd_T175, show ((l.length : Int) - 1).toNat = l.length - 1 by omega]
theorem spec_CodeOk_ev (l : List S175) (hl : l.length ≤ 1048576) : Ev (fun k => spec_CodeOk.f k l) (codeOk l) := by
  simp only [spec_CodeOk.f, spec_l1In_eq, Option.bind_some]
  by_cases h1 : inn (l.length : Int) 1 800 = true
  · have h1' : 1 ≤ (l.length : Int) := by simp only [inn, decide_eq_true_eq] at h1; exact h1.1
    refine Ev.ite_pos h1 ?_
    refine Ev.val (r := l.all (stepIn (l.length : Int)) && lastStep l) (by unfold codeOk; rw [h1, Bool.true_and]) ?_
    refine all_loop (L := fun j k => spec_CodeOk.l0 k l (l.length : Int) (j : Int)) l (stepIn (l.length : Int)) ?_ (fun j hj hp r ih => ?_) (fun j hj hp => ?_)
    · refine Ev.one fun k => ?_
      simp only [spec_CodeOk.l0]
      rw [if_neg (by omega), wrap_in (by omega) (by omega), if_pos (by omega), if_pos (by omega), rd_last_step l (by omega), last_step]
    · refine Ev.step (fun k => by simp only [spec_CodeOk.l0]; rw [if_pos (by omega), if_pos (by omega), if_pos (by omega), rd_step l j hj]) (Ev.bind (spec_StepOk_ev ..) ?_)
      refine Ev.ite_pos hp ?_
      rw [wrapS hj (by omega)]
      exact ih
    · refine Ev.step (fun k => by simp only [spec_CodeOk.l0]; rw [if_pos (by omega), if_pos (by omega), if_pos (by omega), rd_step l j hj]) (Ev.bind (spec_StepOk_ev ..) ?_)
      exact Ev.ite_neg (fun e => by have e' : stepIn (l.length : Int) l[j] = true := e; rw [hp] at e'; cases e') (Ev.now _)
  · refine Ev.ite_neg h1 ?_
    rw [codeOk, show inn (l.length : Int) 1 800 = false by simpa using h1, Bool.false_and]
    exact Ev.now _
theorem impl_CodeOk_ev (l : List S175) (hl : l.length ≤ 1048576) : Ev (fun k => impl_CodeOk.f k l) (codeOk l) := by
  simp only [impl_CodeOk.f, impl_within_eq, Option.bind_some]
  by_cases h1 : inn (l.length : Int) 1 800 = true
  · have h1' : 1 ≤ (l.length : Int) := by simp only [inn, decide_eq_true_eq] at h1; exact h1.1
    refine Ev.ite_pos h1 ?_
    refine Ev.val (r := l.all (stepIn (l.length : Int)) && lastStep l) (by unfold codeOk; rw [h1, Bool.true_and]) ?_
    refine all_loop (L := fun j k => impl_CodeOk.l0 k l l (l.length : Int) (j : Int)) l (stepIn (l.length : Int)) ?_ (fun j hj hp r ih => ?_) (fun j hj hp => ?_)
    · refine Ev.one fun k => ?_
      simp only [impl_CodeOk.l0]
      rw [if_neg (by omega), wrap_in (by omega) (by omega), if_pos (by omega), if_pos (by omega), rd_last_step l (by omega), last_step]
    · refine Ev.step (fun k => by simp only [impl_CodeOk.l0]; rw [if_pos (by omega), if_pos (by omega), if_pos (by omega), rd_step l j hj]) (Ev.bind (impl_StepOk_ev ..) ?_)
      refine Ev.ite_pos hp ?_
      rw [wrapS hj (by omega)]
      exact ih
    · refine Ev.step (fun k => by simp only [impl_CodeOk.l0]; rw [if_pos (by omega), if_pos (by omega), if_pos (by omega), rd_step l j hj]) (Ev.bind (impl_StepOk_ev ..) ?_)
      exact Ev.ite_neg (fun e => by have e' : stepIn (l.length : Int) l[j] = true := e; rw [hp] at e'; cases e') (Ev.now _)
  · refine Ev.ite_neg h1 ?_
    rw [codeOk, show inn (l.length : Int) 1 800 = false by simpa using h1, Bool.false_and]
    exact Ev.now _
def noteIn (n : Int) (x : S35) : Bool := inn x.f0 0 (n - 1)
theorem rd_note (l : List S35) (j : Nat) (h : j < l.length) : rd_T35 l (j : Int) = l[j] := by simp [rd_T35, List.getD_eq_getElem?_getD, h]
theorem impl_notesOk_ev (l : List S35) (n : Int) (hl : l.length ≤ 1048576) (h0 : 0 ≤ n) (h1 : n ≤ 1048576) : Ev (fun k => impl_notesOk.f k l n) (l.all (noteIn n) && decide ((l.length : Int) ≤ 4000)) := by
  simp only [impl_notesOk.f]
  refine all_loop (L := fun j k => impl_notesOk.l0 k l n l (l.length : Int) (j : Int)) l (noteIn n) ?_ (fun j hj hp r ih => ?_) (fun j hj hp => ?_)
  · exact Ev.one fun k => by rw [impl_notesOk.l0, if_neg (by omega)]
  · have hp' : inn l[j].f0 0 (n - 1) = true := hp
    exact Ev.step (fun k => by rw [impl_notesOk.l0, if_pos (by omega), if_pos (by omega), if_pos (by omega), rd_note l j hj, wrap_in (n := n - 1) (by omega) (by omega), impl_within_eq, Option.bind_some, if_pos hp', wrapS hj (by omega)]) ih
  · have hp' : inn l[j].f0 0 (n - 1) = false := hp
    exact Ev.one fun k => by rw [impl_notesOk.l0, if_pos (by omega), if_pos (by omega), if_pos (by omega), rd_note l j hj, wrap_in (n := n - 1) (by omega) (by omega), impl_within_eq, Option.bind_some, if_neg (by rw [hp']; simp)]
def coreIn (cd : List (List S175)) (ks : List S123) (m : List (List S170)) (j : Nat) : Bool :=
  codeOk (cd.getD j []) && (decide (((ks.getD j z123).f1.length : Int) = 8) && (inn (ks.getD j z123).f0 0 (((cd.getD j []).length : Int) - 1) && (inn (ks.getD j z123).f3 0 2 && viewOk m (ks.getD j z123).f2)))
theorem rd_core (l : List S123) (j : Nat) : rd_T123 l (j : Int) = l.getD j z123 := by simp [rd_T123]
theorem rd_code (m : List (List S175)) (j : Nat) : rd_L4 m (j : Int) = m.getD j [] := by simp [rd_L4]
theorem rng_get {n j : Nat} (h : j < (List.range n).length) : (List.range n)[j] = j := by simp
theorem code_small {cd : List (List S175)} (h : ∀ b ∈ cd, b.length ≤ 1048576) (j : Nat) : (cd.getD j []).length ≤ 1048576 := by
  rw [List.getD_eq_getElem?_getD]
  cases e : cd[j]? with
  | none => simp
  | some c => exact h c (List.mem_of_getElem? e)
theorem view_small {ks : List S123} (h : ∀ c ∈ ks, c.f2.length ≤ 1048576) (j : Nat) : (ks.getD j z123).f2.length ≤ 1048576 := by
  rw [List.getD_eq_getElem?_getD]
  cases e : ks[j]? with
  | none =>
    show ([] : List Int).length ≤ 1048576
    simp
  | some c => exact h c (List.mem_of_getElem? e)
def machineOk (cd : List (List S175)) (ks : List S123) (m : List (List S170)) (tr : List S35) : Bool :=
  inn (cd.length : Int) 1 4 && (decide ((ks.length : Int) = (cd.length : Int)) && (memOk m && ((tr.all (noteIn (ks.length : Int)) && decide ((tr.length : Int) ≤ 4000)) && ((List.range ks.length).all (coreIn cd ks m) && true))))
theorem cores_impl (cd : List (List S175)) (ks : List S123) (m : List (List S170)) (tr : List S35) (hcd : ∀ b ∈ cd, b.length ≤ 1048576) (hk : ks.length ≤ 1048576) (hv : ∀ c ∈ ks, c.f2.length ≤ 1048576) (hm : Small m) (he : ks.length = cd.length) :
    Ev (fun k => impl_MachineOk.l0 k ks (ks.length : Int) 0 cd ks m tr) ((List.range ks.length).all (coreIn cd ks m) && true) := by
  have jt : ∀ (j : Int) a b c d, Ev (fun k => impl_MachineOk.j2 k ks (ks.length : Int) j true cd ks m tr a b c d) false := fun j a b c d => Ev.one fun k => by rw [impl_MachineOk.j2, if_pos rfl]
  refine all_loop (L := fun j k => impl_MachineOk.l0 k ks (ks.length : Int) (j : Int) cd ks m tr) (List.range ks.length) (coreIn cd ks m) ?_ (fun j hj hp r ih => ?_) (fun j hj hp => ?_)
  · rw [List.length_range]
    exact Ev.one fun k => by rw [impl_MachineOk.l0, if_neg (by omega)]
  · rw [rng_get] at hp
    rw [List.length_range] at hj
    have hs := code_small hcd j
    have hw := view_small hv j
    unfold coreIn at hp
    simp only [Bool.and_eq_true, decide_eq_true_eq] at hp
    obtain ⟨a, b, c, d, e⟩ := hp
    refine Ev.step (fun k => by rw [impl_MachineOk.l0, if_pos (by omega), if_pos (by omega), if_pos (by omega), if_pos (by omega), rd_core, rd_code, wrap_in (n := ((cd.getD j []).length : Int) - 1) (by omega) (by omega)]) ?_
    refine Ev.bind (impl_CodeOk_ev _ hs) (Ev.ite_pos a (Ev.ite_pos b ?_))
    simp only [impl_within_eq, Option.bind_some, c, Bool.not_true]
    refine Ev.step (fun k => by rw [impl_MachineOk.j2, if_neg (by simp), impl_within_eq, Option.bind_some, if_pos d]) ?_
    refine Ev.bind (impl_ViewOk_ev m _ hm hw) (Ev.ite_pos e ?_)
    rw [wrapS hj (by omega)]
    exact ih
  · rw [rng_get] at hp
    rw [List.length_range] at hj
    have hs := code_small hcd j
    have hw := view_small hv j
    unfold coreIn at hp
    refine Ev.step (fun k => by rw [impl_MachineOk.l0, if_pos (by omega), if_pos (by omega), if_pos (by omega), if_pos (by omega), rd_core, rd_code, wrap_in (n := ((cd.getD j []).length : Int) - 1) (by omega) (by omega)]) ?_
    refine Ev.bind (impl_CodeOk_ev _ hs) ?_
    by_cases a : codeOk (cd.getD j []) = true
    case neg => exact Ev.ite_neg a (jt ..)
    rw [a, Bool.true_and] at hp
    refine Ev.ite_pos a ?_
    by_cases b : ((ks.getD j z123).f1.length : Int) = 8
    case neg => exact Ev.ite_neg b (jt ..)
    rw [decide_eq_true b, Bool.true_and] at hp
    refine Ev.ite_pos b ?_
    simp only [impl_within_eq, Option.bind_some]
    by_cases c : inn (ks.getD j z123).f0 0 (((cd.getD j []).length : Int) - 1) = true
    case neg =>
      rw [Bool.eq_false_iff.mpr c]
      exact jt ..
    rw [c, Bool.true_and] at hp
    rw [c]
    by_cases d : inn (ks.getD j z123).f3 0 2 = true
    case neg => exact Ev.one fun k => by rw [impl_MachineOk.j2, if_neg (by simp), impl_within_eq, Option.bind_some, if_neg d]
    rw [d, Bool.true_and] at hp
    refine Ev.step (fun k => by rw [impl_MachineOk.j2, if_neg (by simp), impl_within_eq, Option.bind_some, if_pos d]) ?_
    refine Ev.bind (impl_ViewOk_ev m _ hm hw) ?_
    rw [hp]
    exact Ev.ite_neg (by simp) (Ev.now _)
theorem impl_MachineOk_ev (cd : List (List S175)) (ks : List S123) (m : List (List S170)) (tr : List S35) (hcl : cd.length ≤ 1048576) (hcd : ∀ b ∈ cd, b.length ≤ 1048576) (hk : ks.length ≤ 1048576) (hv : ∀ c ∈ ks, c.f2.length ≤ 1048576) (hm : Small m) (ht : tr.length ≤ 1048576) : Ev (fun k => impl_MachineOk.f k cd ks m tr) (machineOk cd ks m tr) := by
  have jt : Ev (fun k => impl_MachineOk.j0 k true cd ks m tr) false := Ev.one fun k => by rw [impl_MachineOk.j0, if_pos rfl]
  simp only [impl_MachineOk.f, impl_within_eq, Option.bind_some]
  unfold machineOk
  by_cases h1 : inn (cd.length : Int) 1 4 = true
  case neg =>
    rw [Bool.eq_false_iff.mpr h1, Bool.false_and]
    exact Ev.ite_neg (by simp) jt
  rw [h1, Bool.true_and]
  refine Ev.ite_pos rfl ?_
  by_cases h2 : (ks.length : Int) = (cd.length : Int)
  case neg =>
    rw [decide_eq_false h2, Bool.false_and]
    exact Ev.ite_neg h2 jt
  rw [decide_eq_true h2, Bool.true_and]
  refine Ev.ite_pos h2 ?_
  refine Ev.bind (impl_MemoryOk_ev m hm) ?_
  by_cases h3 : memOk m = true
  case neg =>
    rw [Bool.eq_false_iff.mpr h3, Bool.false_and]
    exact Ev.ite_neg (by simp) jt
  rw [h3, Bool.true_and]
  refine Ev.ite_pos rfl ?_
  refine Ev.bind (impl_notesOk_ev tr (ks.length : Int) ht (by omega) (by omega)) ?_
  cases (tr.all (noteIn (ks.length : Int)) && decide ((tr.length : Int) ≤ 4000)) with
  | false => rw [Bool.false_and]; exact jt
  | true =>
    rw [Bool.true_and]
    exact Ev.step (fun k => by rw [impl_MachineOk.j0, if_neg (by simp)]) (cores_impl cd ks m tr hcd hk hv hm (by omega))
theorem trace_spec (cd : List (List S175)) (ks : List S123) (m : List (List S170)) (tr : List S35) (n : Int) (h0 : 0 ≤ n) (h1 : n ≤ 1048576) (ht : tr.length ≤ 1048576) : Ev (fun k => spec_MachineOk.l1 k n 0 cd ks m tr) (tr.all (noteIn n) && true) := by
  refine all_loop (L := fun j k => spec_MachineOk.l1 k n (j : Int) cd ks m tr) tr (noteIn n) ?_ (fun j hj hp r ih => ?_) (fun j hj hp => ?_)
  · exact Ev.one fun k => by rw [spec_MachineOk.l1, if_neg (by omega)]
  · have hp' : inn tr[j].f0 0 (n - 1) = true := hp
    exact Ev.step (fun k => by rw [spec_MachineOk.l1, if_pos (by omega), if_pos (by omega), rd_note tr j hj, wrap_in (n := n - 1) (by omega) (by omega), spec_l1In_eq, Option.bind_some, if_pos hp', wrapS hj (by omega)]) ih
  · have hp' : inn tr[j].f0 0 (n - 1) = false := hp
    exact Ev.one fun k => by rw [spec_MachineOk.l1, if_pos (by omega), if_pos (by omega), rd_note tr j hj, wrap_in (n := n - 1) (by omega) (by omega), spec_l1In_eq, Option.bind_some, if_neg (by rw [hp']; simp)]
theorem cores_spec (cd : List (List S175)) (ks : List S123) (m : List (List S170)) (tr : List S35) (hcd : ∀ b ∈ cd, b.length ≤ 1048576) (hk : ks.length ≤ 1048576) (hv : ∀ c ∈ ks, c.f2.length ≤ 1048576) (hm : Small m) (he : ks.length = cd.length) (ht : tr.length ≤ 1048576) :
    Ev (fun k => spec_MachineOk.l0 k (ks.length : Int) 0 cd ks m tr) ((List.range ks.length).all (coreIn cd ks m) && (tr.all (noteIn (ks.length : Int)) && true)) := by
  have jt : ∀ (j : Int), Ev (fun k => spec_MachineOk.j2 k (ks.length : Int) j true cd ks m tr) false := fun j => Ev.one fun k => by rw [spec_MachineOk.j2, if_pos rfl]
  refine all_loop (L := fun j k => spec_MachineOk.l0 k (ks.length : Int) (j : Int) cd ks m tr) (List.range ks.length) (coreIn cd ks m) ?_ (fun j hj hp r ih => ?_) (fun j hj hp => ?_)
  · rw [List.length_range]
    exact Ev.step (fun k => by rw [spec_MachineOk.l0, if_neg (by omega)]) (trace_spec cd ks m tr _ (by omega) (by omega) ht)
  · rw [rng_get] at hp
    rw [List.length_range] at hj
    have hs := code_small hcd j
    have hw := view_small hv j
    unfold coreIn at hp
    simp only [Bool.and_eq_true, decide_eq_true_eq] at hp
    obtain ⟨a, b, c, d, e⟩ := hp
    refine Ev.step (fun k => by rw [spec_MachineOk.l0, if_pos (by omega), if_pos (by omega), if_pos (by omega), if_pos (by omega), rd_core, rd_code, wrap_in (n := ((cd.getD j []).length : Int) - 1) (by omega) (by omega)]) ?_
    refine Ev.bind (spec_CodeOk_ev _ hs) (Ev.ite_pos a (Ev.ite_pos b ?_))
    simp only [spec_l1In_eq, Option.bind_some, c, d, if_true]
    refine Ev.bind (spec_ViewOk_ev m _ hm hw) ?_
    rw [e]
    refine Ev.step (fun k => by rw [spec_MachineOk.j2, if_neg (by simp), wrapS hj (by omega)]) ih
  · rw [rng_get] at hp
    rw [List.length_range] at hj
    have hs := code_small hcd j
    have hw := view_small hv j
    unfold coreIn at hp
    refine Ev.step (fun k => by rw [spec_MachineOk.l0, if_pos (by omega), if_pos (by omega), if_pos (by omega), if_pos (by omega), rd_core, rd_code, wrap_in (n := ((cd.getD j []).length : Int) - 1) (by omega) (by omega)]) ?_
    refine Ev.bind (spec_CodeOk_ev _ hs) ?_
    by_cases a : codeOk (cd.getD j []) = true
    case neg => exact Ev.ite_neg a (jt _)
    rw [a, Bool.true_and] at hp
    refine Ev.ite_pos a ?_
    by_cases b : ((ks.getD j z123).f1.length : Int) = 8
    case neg => exact Ev.ite_neg b (jt _)
    rw [decide_eq_true b, Bool.true_and] at hp
    refine Ev.ite_pos b ?_
    simp only [spec_l1In_eq, Option.bind_some]
    by_cases c : inn (ks.getD j z123).f0 0 (((cd.getD j []).length : Int) - 1) = true
    case neg => exact Ev.ite_neg c (jt _)
    rw [c, Bool.true_and] at hp
    refine Ev.ite_pos c ?_
    by_cases d : inn (ks.getD j z123).f3 0 2 = true
    case neg => exact Ev.ite_neg d (jt _)
    rw [d, Bool.true_and] at hp
    refine Ev.ite_pos d (Ev.bind (spec_ViewOk_ev m _ hm hw) ?_)
    rw [hp]
    exact jt _
theorem spec_MachineOk_ev (cd : List (List S175)) (ks : List S123) (m : List (List S170)) (tr : List S35) (hcl : cd.length ≤ 1048576) (hcd : ∀ b ∈ cd, b.length ≤ 1048576) (hk : ks.length ≤ 1048576) (hv : ∀ c ∈ ks, c.f2.length ≤ 1048576) (hm : Small m) (ht : tr.length ≤ 1048576) : Ev (fun k => spec_MachineOk.f k cd ks m tr) (machineOk cd ks m tr) := by
  have jt : ∀ n : Int, Ev (fun k => spec_MachineOk.j0 k n true cd ks m tr) false := fun n => Ev.one fun k => by rw [spec_MachineOk.j0, if_pos rfl]
  simp only [spec_MachineOk.f, spec_l1In_eq, Option.bind_some]
  unfold machineOk
  by_cases h1 : inn (cd.length : Int) 1 4 = true
  case neg =>
    rw [Bool.eq_false_iff.mpr h1, Bool.false_and]
    exact Ev.ite_neg (by simp) (jt _)
  rw [h1, Bool.true_and]
  refine Ev.ite_pos rfl ?_
  by_cases h2 : (ks.length : Int) = (cd.length : Int)
  case neg =>
    rw [decide_eq_false h2, Bool.false_and]
    exact Ev.ite_neg h2 (jt _)
  rw [decide_eq_true h2, Bool.true_and]
  refine Ev.ite_pos h2 ?_
  refine Ev.bind (spec_MemoryOk_ev m hm) ?_
  by_cases h3 : memOk m = true
  case neg =>
    rw [Bool.eq_false_iff.mpr h3, Bool.false_and]
    exact Ev.ite_neg (by simp) (jt _)
  rw [h3, Bool.true_and]
  refine Ev.ite_pos rfl ?_
  by_cases h4 : (tr.length : Int) ≤ 4000
  · rw [decide_eq_false (show ¬ (tr.length : Int) > 4000 by omega), decide_eq_true h4, Bool.and_true]
    rw [← h2]
    refine Ev.val ?_ (Ev.step (fun k => by rw [spec_MachineOk.j0, if_neg (by simp)]) (cores_spec cd ks m tr hcd hk hv hm (by omega) ht))
    cases tr.all (noteIn (ks.length : Int)) <;> simp
  · rw [decide_eq_true (show (tr.length : Int) > 4000 by omega), decide_eq_false h4, Bool.and_false, Bool.false_and]
    exact jt _
theorem codes_small (xs : List (List S177)) (h : xs.length + total wlStepS xs ≤ 1048576) : (xs.map cvStepS).length ≤ 1048576 ∧ ∀ b ∈ xs.map cvStepS, b.length ≤ 1048576 := by
  refine ⟨by simp; omega, fun b hb => ?_⟩
  obtain ⟨y, hy, rfl⟩ := List.mem_map.1 hb
  have h1 := total_mem wlStepS hy
  have h2 : y.length ≤ wlStepS y := by first | exact Nat.le_refl _ | (unfold wlStepS; omega)
  simp [cvStepS]
  omega
theorem codes_eq (xs : List (List S177)) (h : xs.length + total wlStepS xs ≤ 1048576) : (xs.map cvStepS).length + total wiStepS (xs.map cvStepS) ≤ 1048576 := by
  rw [List.length_map, total_map wlStepS wiStepS cvStepS w_cvStepS]
  exact h
def cell0 : List S170 := [⟨0, List.replicate 24 0⟩]
def mem0 : List (List S170) := List.replicate 24 cell0
theorem mem0_len : mem0.length = 24 := List.length_replicate
theorem mem0_step {j : Nat} (h : j < 24) : List.replicate j cell0 ++ [cell0] = List.replicate (j + 1) cell0 := List.replicate_succ'.symm
theorem spec_MemoryNew_ev : Ev (fun k => spec_MemoryNew.f k) mem0 := by
  have key := count_up (L := fun j k => spec_MemoryNew.l0 k (j : Int) (List.replicate j cell0)) (R := fun _ => mem0) (n := 24)
    (Ev.one fun k => by
      simp only [spec_MemoryNew.l0]
      rw [if_neg (by omega)]
      rfl)
    (fun j hj ih => Ev.step (fun k => by
      simp only [spec_MemoryNew.l0]
      rw [if_pos (by omega), if_pos (by omega), if_pos (by rw [List.length_replicate]; omega), wrapS (n := 24) (by omega) (by omega)]
      rw [show ([⟨0, List.replicate 24 0⟩] : List S170) = cell0 from rfl, mem0_step hj]) ih)
  exact key 0 (Nat.zero_le _)
theorem impl_MemoryNew_ev : Ev (fun k => impl_MemoryNew.f k) mem0 := by
  have key := count_up (L := fun j k => impl_MemoryNew.l0 k (j : Int) (List.replicate j cell0)) (R := fun _ => mem0) (n := 24)
    (Ev.one fun k => by
      simp only [impl_MemoryNew.l0]
      rw [if_neg (by omega)]
      rfl)
    (fun j hj ih => Ev.step (fun k => by
      simp only [impl_MemoryNew.l0]
      rw [if_pos (by omega), if_pos (by omega), if_pos (by rw [List.length_replicate]; omega), wrapS (n := 24) (by omega) (by omega)]
      rw [show ([⟨0, List.replicate 24 0⟩] : List S170) = cell0 from rfl, mem0_step hj]) ih)
  exact key 0 (Nat.zero_le _)
theorem Ev.if_le {α : Type} {c : Prop} [Decidable c] {g : Nat → Option α} {r : α} (h : c) (k : Ev g r) : Ev (fun n => if c then g n else none) r := by simp only [if_pos h]; exact k
def core0 : S123 := ⟨0, List.replicate 8 0, List.replicate 24 0, 0⟩
def cores0 (n : Nat) : List S123 := List.replicate n core0
def machNew (cd : List (List S175)) : List (List S175) × List S123 × List (List S170) × List S35 × Bool :=
  if machineOk cd (cores0 cd.length) mem0 [] = true then (cd, cores0 cd.length, mem0, [], true) else ([], [], [], [], false)
theorem cores0_len (n : Nat) : (cores0 n).length = n := List.length_replicate
theorem cores0_step (j : Nat) : cores0 j ++ [(⟨0, List.replicate 8 0, List.replicate 24 0, 0⟩ : S123)] = cores0 (j + 1) := List.replicate_succ'.symm
theorem cores0_f2 (n : Nat) : ∀ c ∈ cores0 n, c.f2.length ≤ 1048576 := fun c hc => by
  rw [(List.mem_replicate.1 hc).2]
  decide
theorem mem0_small : Small mem0 := ⟨by rw [mem0_len]; decide, fun c hc => by
  rw [(List.mem_replicate.1 hc).2]
  exact ⟨by decide, fun w hw => by
    rw [List.mem_singleton.1 hw]
    decide⟩⟩
theorem rows_step (l : List (List S175)) {j : Nat} (h : j < l.length) : l.take j ++ [([] : List S175) ++ rd_L4 l (j : Int)] = l.take (j + 1) := by
  rw [rd_code, List.getD_eq_getElem?_getD, List.getElem?_eq_getElem h, Option.getD_some, List.nil_append]
  exact (List.take_succ_eq_append_getElem h).symm
section
variable (cd : List (List S175)) (hl : cd.length ≤ 1048576) (hb : ∀ b ∈ cd, b.length ≤ 1048576)
include hl hb
theorem l8Codes_ev : Ev (fun k => spec_l8Codes.f k cd) cd := by
  have key := count_up (L := fun j k => spec_l8Codes.l0 k cd (cd.take j) (j : Int)) (R := fun _ => cd) (n := cd.length)
    (Ev.one fun k => by
      simp only [spec_l8Codes.l0]
      rw [if_neg (by omega), List.take_length])
    (fun j hj ih => Ev.step (fun k => by
      have h1 := code_small hb j
      rw [← rd_code] at h1
      have h2 : (cd.take j).length ≤ 1048576 := by rw [List.length_take]; omega
      simp only [spec_l8Codes.l0, Option.bind_some]
      rw [if_pos (by omega), if_pos (by omega), if_pos (by simp only [List.length_nil]; omega), if_pos (by omega), rows_step cd hj, wrapS hj (by omega)]) ih)
  exact key 0 (Nat.zero_le _)
theorem new_end {g : Nat → Option Bool} (h : Ev g (machineOk cd (cores0 cd.length) mem0 [])) : Ev (fun k => (g k).bind fun t => (if t = true then (some (cd, cores0 cd.length, mem0, ([] : List S35), true)) else (some (([] : List (List S175)), ([] : List S123), ([] : List (List S170)), ([] : List S35), false)))) (machNew cd) := by
  have _h1 := hl
  have _h2 := hb
  refine Ev.bind h ?_
  by_cases e : machineOk cd (cores0 cd.length) mem0 [] = true
  · rw [show machNew cd = (cd, cores0 cd.length, mem0, [], true) from if_pos e]
    exact Ev.ite_pos e (Ev.now _)
  · rw [show machNew cd = ([], [], [], [], false) from if_neg e]
    exact Ev.ite_neg e (Ev.now _)
theorem spec_MachineNew_ev : Ev (fun k => spec_MachineNew.f k cd) (machNew cd) := by
  have hok := spec_MachineOk_ev cd (cores0 cd.length) mem0 [] hl hb (by rw [cores0_len]; exact hl) (cores0_f2 _) mem0_small (by decide)
  have key := count_up (L := fun j k => spec_MachineNew.l0 k cd (j : Int) cd (cores0 j) mem0) (R := fun _ => machNew cd) (n := cd.length)
    (Ev.step (fun k => by
      simp only [spec_MachineNew.l0]
      rw [if_neg (by omega)]) (new_end cd hl hb hok))
    (fun j hj ih => Ev.step (fun k => by
      simp only [spec_MachineNew.l0]
      rw [if_pos (by omega), if_pos (by decide), if_pos (by decide), if_pos (by rw [cores0_len]; omega), cores0_step, wrapS hj (by omega)]) ih)
  simp only [spec_MachineNew.f]
  exact Ev.bind (l8Codes_ev cd hl hb) (Ev.bind spec_MemoryNew_ev (key 0 (Nat.zero_le _)))
theorem impl_MachineNew_ev : Ev (fun k => impl_MachineNew.f k cd) (machNew cd) := by
  have hok := impl_MachineOk_ev cd (cores0 cd.length) mem0 [] hl hb (by rw [cores0_len]; exact hl) (cores0_f2 _) mem0_small (by decide)
  have key := count_up (L := fun j k => impl_MachineNew.l0 k cd (cd.length : Int) (j : Int) (cd.take j) (cores0 j) mem0) (R := fun _ => machNew cd) (n := cd.length)
    (Ev.step (fun k => by
      simp only [impl_MachineNew.l0]
      rw [if_neg (by omega), List.take_length]) (new_end cd hl hb hok))
    (fun j hj ih => Ev.step (fun k => by
      have h1 := code_small hb j
      rw [← rd_code] at h1
      have h2 : (cd.take j).length ≤ 1048576 := by rw [List.length_take]; omega
      simp only [impl_MachineNew.l0, Option.bind_some]
      rw [if_pos (by omega), if_pos (by omega), if_pos (by omega), if_pos (by simp only [List.length_nil]; omega), if_pos (by omega), if_pos (by decide), if_pos (by decide), if_pos (by rw [cores0_len]; omega), rows_step cd hj, cores0_step, wrapS hj (by omega)]) ih)
  simp only [impl_MachineNew.f]
  exact Ev.bind impl_MemoryNew_ev (key 0 (Nat.zero_le _))
end
theorem wsum_steps : ∀ bs : List (List S175), Marks.wsum (Marks.wsum wt175) bs ≤ 5 * total (fun b => b.length) bs
  | [] => by simp [Marks.wsum, total]
  | b :: bs => by
    have h1 : Marks.wsum wt175 b = 5 * b.length := by
      have key : ∀ l : List S175, Marks.wsum wt175 l = 5 * l.length := by
        intro l
        induction l with
        | nil => simp [Marks.wsum]
        | cons x l ih => rw [Marks.wsum, ih, List.length_cons, show wt175 x = 5 from rfl]; omega
      exact key b
    have h2 := wsum_steps bs
    rw [Marks.wsum, total, h1]
    omega
theorem wsum_cores : ∀ n : Nat, Marks.wsum wt123 (cores0 n) = 34 * n
  | 0 => rfl
  | n + 1 => by
    show wt123 core0 + Marks.wsum wt123 (cores0 n) = _
    rw [wsum_cores n, show wt123 core0 = 34 by decide]
    omega
theorem total_cores : ∀ n : Nat, total wiCore (cores0 n) = total wiCore [core0] * n
  | 0 => rfl
  | n + 1 => by
    show wiCore core0 + total wiCore (cores0 n) = _
    rw [total_cores n, Nat.mul_add, Nat.mul_one]
    show wiCore core0 + _ = _ + (wiCore core0 + 0)
    omega
theorem machNew_size (cd : List (List S175)) (h : cd.length + total wiStepS cd ≤ 1048576) :
    ((machNew cd).1.length + total wiStepS (machNew cd).1 ≤ 1048576 ∧ (machNew cd).2.1.length + total wiCore (machNew cd).2.1 ≤ 1048576 ∧ (machNew cd).2.2.1.length + total wiWriteS (machNew cd).2.2.1 ≤ 1048576 ∧ (machNew cd).2.2.2.1 = []) ∧
      Marks.wsum (Marks.wsum wt175) (machNew cd).1 + Marks.wsum wt123 (machNew cd).2.1 + Marks.wsum (Marks.wsum wt170) (machNew cd).2.2.1 + Marks.wsum wt35 (machNew cd).2.2.2.1 ≤ 1152921504606846976 := by
  unfold machNew
  by_cases e : machineOk cd (cores0 cd.length) mem0 [] = true
  · rw [if_pos e]
    have h4 : cd.length ≤ 4 := by
      unfold machineOk at e
      simp only [Bool.and_eq_true, inn, decide_eq_true_eq] at e
      omega
    have t := total_cores cd.length
    have tc : total wiCore [core0] ≤ 1000 := by decide
    have tm : mem0.length + total wiWriteS mem0 ≤ 1048576 := by decide
    have wm : Marks.wsum (Marks.wsum wt170) mem0 ≤ 1048576 := by decide
    have ws := wsum_steps cd
    have wc := wsum_cores cd.length
    have e4 : total (fun b => b.length) cd = total wiStepS cd := rfl
    have tcm : total wiCore [core0] * cd.length ≤ 1000 * 4 := Nat.mul_le_mul tc h4
    refine ⟨⟨h, by dsimp only; rw [cores0_len, t]; omega, tm, rfl⟩, ?_⟩
    dsimp only
    rw [wc]
    simp only [Marks.wsum]
    omega
  · rw [if_neg e]
    decide
theorem FnExactMachineNew (x0 : (List (List S177))) (ok0 : (x0.length ≤ maxLen ∧ ∀ z ∈ x0, (z.length ≤ maxLen ∧ ∀ z' ∈ z, (((Lit.int .i64 z'.f0).wf = true) ∧ (((Lit.int .i64 z'.f1).wf = true) ∧ (((Lit.int .i64 z'.f2).wf = true) ∧ (((Lit.int .i64 z'.f3).wf = true) ∧ ((Lit.int .i64 z'.f4).wf = true)))))))) : ∃ k, laws_FnExactMachineNew.f k x0 = some true := by
  refine Ev.rounds (g := fun k => laws_FnExactMachineNew.f k x0) ?_
  simp only [laws_FnExactMachineNew.f]
  refine Ev.bind (szStepSS_ev x0 1048576 (by omega) (by omega) ⟨ok0.1, fun y hy => (ok0.2 y hy).1⟩) ?_
  by_cases h : ((x0.length + total wlStepS x0 : Nat) : Int) ≤ 1048576
  case neg => rw [left?_no h]; exact Ev.ite_pos (by omega) (Ev.now _)
  rw [left?_yes h]
  refine Ev.ite_neg (by omega) ?_
  have hce := codes_eq x0 (by omega)
  obtain ⟨c1, c2⟩ := codes_small x0 (by omega)
  have hto := toStepSS_ev x0 (by omega)
  have spe := spec_MachineNew_ev (x0.map cvStepS) c1 c2
  have ime := impl_MachineNew_ev (x0.map cvStepS) c1 c2
  obtain ⟨⟨z1, z2, z3, z4⟩, zw⟩ := machNew_size (x0.map cvStepS) hce
  have w1 := wsum_steps (x0.map cvStepS)
  have w4 : total (fun b => b.length) (x0.map cvStepS) = total wiStepS (x0.map cvStepS) := rfl
  generalize machNew (x0.map cvStepS) = z at spe ime z1 z2 z3 z4 zw
  have hg := eqMachine_self z.1 z.2.1 z.2.2.1 z.2.2.2.1 z1 z2 z3 (by rw [z4]; decide)
  refine Ev.bind hto ?_
  refine Ev.bind spe ?_
  refine Ev.bind hto ?_
  refine Ev.bind ime ?_
  refine Ev.ite_pos rfl ?_
  refine Ev.bind hg (Ev.ite_pos rfl ?_)
  refine Ev.bind hto ?_
  refine Ev.bind (eqStepSS_self (x0.map cvStepS) hce) (Ev.ite_pos rfl ?_)
  refine Ev.if_le (by omega) ?_
  refine Ev.bind hg (Ev.ite_pos rfl ?_)
  refine Ev.if_le zw ?_
  refine Ev.bind hto ?_
  refine Ev.bind ime ?_
  refine Ev.ite_pos rfl ?_
  refine Ev.bind hg (Ev.ite_pos rfl ?_)
  exact Ev.now _
end Go.Proofs.Ytobachfngmpeiaa.Pure
namespace Go.Proofs.Ytobachfngmpeiaa.Rd
open Go.RowKit Go.Proofs.YtobachfngmpeiaaW.PrintWords Go.ChangeShapes Go.WideShapes
set_option linter.unusedVariables false
def Opens {α : Type} (P : Program) (t : TypeId) (d : Kd α) (ok : α → Prop) : Prop :=
  ∀ (H : Type) (enc : TypeId × Value → H) (w : World) (base : Nat) (spare : Nat → Bool) (held : Bool) (fuel : Nat) (cs : List Value) (x : DataW H × List MemPlace),
    DataW.trod enc P w base spare held fuel t cs = some x → ∃ y, d.K w y cs ∧ ok y
theorem Opens.int {P : Program} {t : TypeId} {k : IntKind} (ht : P.underlying t = some (.int k)) : Opens P t (Kd.int k) (fun n => (Lit.int k n).wf = true) := by
  intro H enc w base spare held fuel cs x h
  obtain ⟨n, rfl, _, hw⟩ := DataW.trod_int ht h
  exact ⟨n, rfl, hw⟩
theorem Opens.bool {P : Program} {t : TypeId} (ht : P.underlying t = some .bool) : Opens P t Kd.bool (fun _ => True) := by
  intro H enc w base spare held fuel cs x h
  obtain ⟨n, rfl, _⟩ := DataW.trod_bool ht h
  exact ⟨n, rfl, trivial⟩
theorem Opens.weaken {α : Type} {P : Program} {t : TypeId} {d : Kd α} {ok ok' : α → Prop} (h : Opens P t d ok) (hk : ∀ x, ok x → ok' x) : Opens P t d ok' := by
  intro H enc w base spare held fuel cs x hx
  obtain ⟨y, hy, o⟩ := h H enc w base spare held fuel cs x hx
  exact ⟨y, hy, hk y o⟩
theorem list_of {α : Type} {Q : Nat → α → Prop} : ∀ n : Nat, (∀ i, i < n → ∃ y, Q i y) → ∃ ys : List α, ys.length = n ∧ ∀ i y, ys[i]? = some y → Q i y := by
  intro n
  induction n with
  | zero => exact fun _ => ⟨[], rfl, fun i y h => by simp at h⟩
  | succ n ih =>
    intro h
    obtain ⟨ys, hl, hq⟩ := ih (fun i hi => h i (by omega))
    obtain ⟨y, hy⟩ := h n (by omega)
    refine ⟨ys ++ [y], by simp [hl], fun i z hz => ?_⟩
    rcases Nat.lt_or_ge i ys.length with hi | hi
    · rw [List.getElem?_append_left hi] at hz
      exact hq i z hz
    · rw [List.getElem?_append_right hi] at hz
      have h0 : i - ys.length = 0 := by
        have := (List.getElem?_eq_some_iff.1 hz).1
        simp at this
        omega
      rw [h0] at hz
      simp at hz
      subst hz
      have : i = n := by omega
      rw [this]
      exact hy
theorem Opens.slice {α : Type} {P : Program} {t e : TypeId} (q : Nat) {d : Kd α} {ok : α → Prop} (ht : P.underlying t = some (.slice e)) (hs : P.cellsOf e = d.sz) (he : Opens P e d ok) :
    Opens P t (Kd.slice q d) (fun xs => xs.length ≤ maxLen ∧ ∀ x ∈ xs, ok x) := by
  intro H enc w base spare held fuel cs x h
  rcases DataW.trod_slice ht h with ⟨rfl, _⟩ | ⟨a, len, cap, elems, rest, n, _, rfl, _, _, hl, hm, hlen, hel, _, _⟩
  · exact ⟨[], ⟨none, 0, rfl, Nat.le_refl _, rfl, by simp, fun hp => absurd hp (by simp)⟩, by simp, by simp⟩
  · have each : ∀ i, i < len → ∃ y, ∃ c, w.cells? base (a.add (i * d.sz)) d.sz = some c ∧ d.K w y c ∧ ok y := by
      intro i hi
      have h1 := hel i hi
      rw [List.getElem?_eq_getElem (by omega), Option.bind_eq_some_iff, hs] at h1
      obtain ⟨c, hc, hx⟩ := h1
      obtain ⟨y, hy, ho⟩ := he H enc w base spare held n c _ hx
      exact ⟨y, c, hc, hy, ho⟩
    obtain ⟨ys, hyl, hq⟩ := list_of len each
    have hm' : len ≤ 9223372036854775807 := by unfold maxLen at hm; omega
    refine ⟨ys, ⟨some a, cap, by rw [hyl], by omega, rfl, by omega, fun _ => ⟨a, rfl, fun j p hj => ?_⟩⟩, by omega, fun y hy => ?_⟩
    · obtain ⟨c, hc, hk, _⟩ := hq j p hj
      obtain ⟨_, hcl, hcell⟩ := World.cells?_some hc
      refine ⟨c, hcl, hk, fun i u hu => ?_⟩
      have hi : i < d.sz := by
        have := (List.getElem?_eq_some_iff.1 hu).1
        omega
      rw [← Addr.add_add, hcell i hi, hu]
    · obtain ⟨i, hi⟩ := List.getElem?_of_mem hy
      obtain ⟨c, _, _, ho⟩ := hq i y hi
      exact ho
def OpensAt {α : Type} (P : Program) (fs : List Field) (off : Nat) (d : Kd α) (ok : α → Prop) : Prop :=
  ∀ (H : Type) (enc : TypeId × Value → H) (w : World) (base : Nat) (spare : Nat → Bool) (held : Bool) (n : Nat) (cs : List Value), cs.length = off + d.sz →
    (∀ f ∈ fs, ∃ y, DataW.trod enc P w base spare held n f.type ((cs.drop f.offset).take (P.cellsOf f.type)) = some y) → ∃ y, d.K w y (cs.drop off) ∧ ok y
theorem OpensAt.one {α : Type} {P : Program} {f : Field} {off : Nat} {d : Kd α} {ok : α → Prop} (ho : f.offset = off) (hs : P.cellsOf f.type = d.sz) (h : Opens P f.type d ok) : OpensAt P [f] off d ok := by
  intro H enc w base spare held n cs hl hf
  obtain ⟨x, hx⟩ := hf f (by simp)
  rw [ho, hs, List.take_of_length_le (by simp; omega)] at hx
  exact h _ _ _ _ _ _ _ _ _ hx
theorem OpensAt.cons {α β : Type} {P : Program} {f : Field} {fs : List Field} {off : Nat} {a : Kd α} {b : Kd β} {oka : α → Prop} {okb : β → Prop} (ho : f.offset = off) (hs : P.cellsOf f.type = a.sz) (h : Opens P f.type a oka)
    (hr : OpensAt P fs (off + a.sz) b okb) : OpensAt P (f :: fs) off (Kd.pair a b) (fun x => oka x.1 ∧ okb x.2) := by
  intro H enc w base spare held n cs hl hf
  obtain ⟨x, hx⟩ := hf f (by simp)
  rw [ho, hs] at hx
  obtain ⟨y, hy, oy⟩ := h _ _ _ _ _ _ _ _ _ hx
  have hl' : cs.length = (off + a.sz) + b.sz := by rw [hl]; show off + (a.sz + b.sz) = _; omega
  obtain ⟨z, hz, oz⟩ := hr H enc w base spare held n cs hl' (fun g hg => hf g (by simp [hg]))
  refine ⟨(y, z), ⟨_, _, ?_, hy, hz⟩, oy, oz⟩
  rw [← List.drop_drop]
  exact (List.take_append_drop _ _).symm
theorem Opens.struct {α : Type} {P : Program} {t : TypeId} {fs : List Field} {d : Kd α} {ok : α → Prop} (ht : P.underlying t = some (.struct (List.toArray fs))) (hs : P.cellsOf t = d.sz) (h : OpensAt P fs 0 d ok) : Opens P t d ok := by
  intro H enc w base spare held fuel cs x hx
  obtain ⟨xs, n, _, _, hl, hlen, hf⟩ := DataW.trod_struct ht hx
  obtain ⟨y, hy, oy⟩ := h H enc w base spare held n cs (by omega) (fun f hm => by
    obtain ⟨i, hi⟩ := List.getElem?_of_mem hm
    have hi' : (List.toArray fs)[i]? = some f := by simpa using hi
    have h1 := hf i f hi'
    have hlt : i < xs.length := by
      have := (Array.getElem?_eq_some_iff.1 hi').1
      omega
    rw [List.getElem?_eq_getElem hlt] at h1
    exact ⟨_, h1⟩)
  exact ⟨y, by simpa using hy, oy⟩
theorem Opens.iso {α β : Type} {P : Program} {t : TypeId} {d : Kd α} {ok : α → Prop} (f : β → α) (g : α → β) (hg : ∀ x, f (g x) = x) (h : Opens P t d ok) : Opens P t (Kd.iso d f) (fun y => ok (f y)) := by
  intro H enc w base spare held fuel cs x hx
  obtain ⟨y, hy, o⟩ := h H enc w base spare held fuel cs x hx
  refine ⟨g y, ?_, ?_⟩
  · show d.K w (f (g y)) cs
    rw [hg]
    exact hy
  · show ok (f (g y))
    rw [hg]
    exact o
theorem Opens.at_slice {α : Type} {P : Program} {t : TypeId} {q : Nat} {d : Kd α} {ok : List α → Prop} (h : Opens P t (Kd.slice q d) ok) {H : Type} {enc : TypeId × Value → H} {w : World} {base : Nat} {spare : Nat → Bool} {held : Bool} {v : Value} {x : DataW H} {ps : List MemPlace}
    {e : TypeId} {r : Reach} {b0 : Nat} (hu : P.underlying t = some (.slice e)) (hv : Value.okWide P w r b0 t v) (hx : DataW.Trod enc P w base spare held t v x ps) : ∃ xs A c, v = .slice A xs.length c ∧ xs.length ≤ c ∧ d.C w A xs.length xs ∧ ok xs := by
  obtain ⟨a, len, cap, rfl⟩ := okWide_slice hu hv
  obtain ⟨fuel, hf⟩ := hx
  obtain ⟨xs, ⟨A, c, hcs, hl, hC⟩, o⟩ := h _ _ _ _ _ _ _ _ _ hf
  refine ⟨xs, A, c, ?_, hl, hC, o⟩
  simpa [Value.cells] using hcs
end Go.Proofs.Ytobachfngmpeiaa.Rd
