/- A part of the proof that the law FnMessage holds for every input: the words, functions and walks that its row needs, without a condition of their own. -/
import Derived.ProofKit
import Derived.DataElems
import Derived.ChangeArms
import Derived.SizedLaws
import Derived.Test.YthbcnakmnbilhaaZFnMessagea0
import Derived.Test.YthbcnakmnbilhaaZFnMessagea8
namespace Go.Proofs.Ythbcnakmnbilhaa.Pure
open Go.RowKit Go.Proofs.Ythbcnakmnbilhaa Go.Proofs.Ythbcnakmnbilhaa.PFnMessage Go.Proofs.YthbcnakmnbilhaaW.PrintWords Go.Proofs.YthbcnakmnbilhaaW.PrintLast Go.Proofs.Ythbcnakmnbilhaa.Lp
set_option linter.unusedVariables false
set_option linter.unusedSimpArgs false
def inn (a lo hi : Int) : Bool := decide (lo ≤ a ∧ a ≤ hi)
theorem spec_l1In_eq (a lo hi : Int) : spec_l1In.f a lo hi = some (inn a lo hi) := by
  unfold spec_l1In.f inn
  by_cases h : a ≥ lo
  · rw [if_pos h]; congr 1; simp; omega
  · rw [if_neg h, decide_eq_false (by omega)]
theorem impl_within_eq (a lo hi : Int) : impl_within.f a lo hi = some (inn a lo hi) := by
  unfold impl_within.f inn
  by_cases h : a ≥ lo
  · rw [if_pos h]; congr 1; simp; omega
  · rw [if_neg h, decide_eq_false (by omega)]
def viewIn (m : List (List S43)) (v : List Int) (i : Nat) : Bool := inn (v.getD i 0) 0 (((m.getD i []).length : Int) - 1)
def viewOk (m : List (List S43)) (v : List Int) : Bool := decide (v.length = m.length) && (List.range v.length).all (viewIn m v)
theorem rd_cell (m : List (List S43)) (j : Nat) : rd_L3 m (j : Int) = m.getD j [] := by simp [rd_L3]
theorem rd_int (v : List Int) (j : Nat) : rd v (j : Int) = v.getD j 0 := by simp [rd]
def Small (m : List (List S43)) : Prop := m.length ≤ 1048576 ∧ ∀ c ∈ m, c.length ≤ 1048576 ∧ ∀ w ∈ c, w.f1.length ≤ 1048576
theorem Small.at {m : List (List S43)} (h : Small m) (j : Nat) : (m.getD j []).length ≤ 1048576 := by
  rw [List.getD_eq_getElem?_getD]
  cases e : m[j]? with
  | none => simp
  | some c => exact (h.2 c (List.mem_of_getElem? e)).1
theorem range_get {n j : Nat} (h : j < (List.range n).length) : (List.range n)[j] = j := by simp
theorem spec_ViewOk_ev (m : List (List S43)) (v : List Int) (hm : Small m) (hv : v.length ≤ 1048576) : Ev (fun k => spec_ViewOk.f k m v) (viewOk m v) := by
  by_cases hl : v.length = m.length
  · have key := all_loop (L := fun j k => spec_ViewOk.l0 k v (j : Int) m) (List.range v.length) (viewIn m v) (b := true) (Ev.one fun k => by
        simp only [spec_ViewOk.l0]
        rw [if_neg (by simp)])
      (fun j hj hp r ih => by
        rw [List.length_range] at hj
        rw [range_get] at hp
        have h1 := hm.at j
        refine Ev.step (fun k => ?_) ih
        simp only [spec_ViewOk.l0]
        rw [if_pos (by omega), if_pos (by omega), if_pos (by omega), rd_int, rd_cell, wrap_in (by omega) (by omega), spec_l1In_eq, Option.bind_some, if_pos (show inn (v.getD j 0) 0 (((m.getD j []).length : Int) - 1) = true from hp), wrapS hj (by omega)])
      (fun j hj hp => by
        rw [List.length_range] at hj
        rw [range_get] at hp
        have h1 := hm.at j
        refine Ev.one fun k => ?_
        simp only [spec_ViewOk.l0]
        rw [if_pos (by omega), if_pos (by omega), if_pos (by omega), rd_int, rd_cell, wrap_in (by omega) (by omega), spec_l1In_eq, Option.bind_some, if_neg (show ¬ inn (v.getD j 0) 0 (((m.getD j []).length : Int) - 1) = true from fun e => by have e' : viewIn m v j = true := e; rw [hp] at e'; cases e')])
    rw [Bool.and_true] at key
    refine Ev.congr (fun k => ?_) (Ev.val (by rw [viewOk, decide_eq_true hl, Bool.true_and]) key)
    unfold spec_ViewOk.f
    rw [if_pos (by omega)]
    rfl
  · refine Ev.all fun k => ?_
    unfold spec_ViewOk.f
    rw [if_neg (by omega), viewOk, decide_eq_false hl, Bool.false_and]
theorem impl_ViewOk_ev (m : List (List S43)) (v : List Int) (hm : Small m) (hv : v.length ≤ 1048576) : Ev (fun k => impl_ViewOk.f k m v) (viewOk m v) := by
  by_cases hl : v.length = m.length
  · have key := all_loop (L := fun j k => impl_ViewOk.l0 k v (v.length : Int) (j : Int) m) (List.range v.length) (viewIn m v) (b := true) (Ev.one fun k => by
        simp only [impl_ViewOk.l0]
        rw [if_neg (by simp)])
      (fun j hj hp r ih => by
        rw [List.length_range] at hj
        rw [range_get] at hp
        have h1 := hm.at j
        refine Ev.step (fun k => ?_) ih
        simp only [impl_ViewOk.l0]
        rw [if_pos (by omega), if_pos (by omega), if_pos (by omega), if_pos (by omega), rd_int, rd_cell, wrap_in (by omega) (by omega), impl_within_eq, Option.bind_some, if_pos (show inn (v.getD j 0) 0 (((m.getD j []).length : Int) - 1) = true from hp), wrapS hj (by omega)])
      (fun j hj hp => by
        rw [List.length_range] at hj
        rw [range_get] at hp
        have h1 := hm.at j
        refine Ev.one fun k => ?_
        simp only [impl_ViewOk.l0]
        rw [if_pos (by omega), if_pos (by omega), if_pos (by omega), if_pos (by omega), rd_int, rd_cell, wrap_in (by omega) (by omega), impl_within_eq, Option.bind_some, if_neg (show ¬ inn (v.getD j 0) 0 (((m.getD j []).length : Int) - 1) = true from fun e => by have e' : viewIn m v j = true := e; rw [hp] at e'; cases e')])
    rw [Bool.and_true] at key
    refine Ev.congr (fun k => ?_) (Ev.val (by rw [viewOk, decide_eq_true hl, Bool.true_and]) key)
    unfold impl_ViewOk.f
    rw [if_pos (by omega)]
    rfl
  · refine Ev.all fun k => ?_
    unfold impl_ViewOk.f
    rw [if_neg (by omega), viewOk, decide_eq_false hl, Bool.false_and]
def cellIn (m : List (List S43)) (c : List S43) : Bool := inn (c.length : Int) 1 4000 && c.all (fun w => viewOk m w.f1)
def memOk (m : List (List S43)) : Bool := m.all (cellIn m) && decide (m.length = 24)
theorem rd_write (l : List S43) (j : Nat) (h : j < l.length) : rd_T43 l (j : Int) = l[j] := by simp [rd_T43, List.getD_eq_getElem?_getD, h]
theorem rd_cell' (m : List (List S43)) (j : Nat) (h : j < m.length) : rd_L3 m (j : Int) = m[j] := by simp [rd_L3, List.getD_eq_getElem?_getD, h]
theorem spec_MemoryOk_ev (m : List (List S43)) (hm : Small m) : Ev (fun k => spec_MemoryOk.f k m) (memOk m) := by
  have hl := hm.1
  by_cases h24 : m.length = 24
  case neg =>
    refine Ev.all fun k => ?_
    unfold spec_MemoryOk.f
    rw [if_neg (by omega), memOk, decide_eq_false h24, Bool.and_false]
  simp only [spec_MemoryOk.f]
  refine Ev.ite_pos (by omega) ?_
  refine all_loop (L := fun j k => spec_MemoryOk.l0 k (j : Int) m) m (cellIn m) ?_ (fun j hj hp r ih => ?_) (fun j hj hp => ?_)
  · refine Ev.one fun k => ?_
    simp only [spec_MemoryOk.l0]
    rw [if_neg (by omega), decide_eq_true h24]
  · have hc := hm.2 m[j] (List.getElem_mem hj)
    have h1 : inn (m[j].length : Int) 1 4000 = true := by unfold cellIn at hp; rw [Bool.and_eq_true] at hp; exact hp.1
    have h2 : m[j].all (fun w => viewOk m w.f1) = true := by unfold cellIn at hp; rw [Bool.and_eq_true] at hp; exact hp.2
    refine Ev.step (fun k => by simp only [spec_MemoryOk.l0, spec_l1In_eq, Option.bind_some]; rw [if_pos (by omega), if_pos (by omega), if_pos (by omega), rd_cell' m j hj, if_pos h1]) ?_
    refine yes_all (L := fun i k => spec_MemoryOk.l1 k (j : Int) (i : Int) m) m[j] (fun w => viewOk m w.f1) h2 ?_ (fun i hi hq ih' => ?_)
    · exact Ev.step (fun k => by simp only [spec_MemoryOk.l1]; rw [if_pos (by omega), if_pos (by omega), rd_cell' m j hj, if_neg (by omega), wrapS hj (by omega)]) ih
    · refine Ev.step (fun k => by simp only [spec_MemoryOk.l1]; rw [if_pos (by omega), if_pos (by omega), rd_cell' m j hj, if_pos (by omega), if_pos (by omega), rd_write _ i hi]) (Ev.bind (spec_ViewOk_ev m _ hm (hc.2 _ (List.getElem_mem hi))) ?_)
      refine Ev.ite_pos hq ?_
      rw [wrapS hi (by omega)]
      exact ih'
  · have hc := hm.2 m[j] (List.getElem_mem hj)
    by_cases h1 : inn (m[j].length : Int) 1 4000 = true
    · have h2 : m[j].all (fun w => viewOk m w.f1) = false := by unfold cellIn at hp; rwa [h1, Bool.true_and] at hp
      refine Ev.step (fun k => by simp only [spec_MemoryOk.l0, spec_l1In_eq, Option.bind_some]; rw [if_pos (by omega), if_pos (by omega), if_pos (by omega), rd_cell' m j hj, if_pos h1]) ?_
      refine no_all (L := fun i k => spec_MemoryOk.l1 k (j : Int) (i : Int) m) m[j] (fun w => viewOk m w.f1) h2 (fun i hi hq ih' => ?_) (fun i hi hq => ?_)
      · refine Ev.step (fun k => by simp only [spec_MemoryOk.l1]; rw [if_pos (by omega), if_pos (by omega), rd_cell' m j hj, if_pos (by omega), if_pos (by omega), rd_write _ i hi]) (Ev.bind (spec_ViewOk_ev m _ hm (hc.2 _ (List.getElem_mem hi))) ?_)
        refine Ev.ite_pos hq ?_
        rw [wrapS hi (by omega)]
        exact ih'
      · refine Ev.step (fun k => by simp only [spec_MemoryOk.l1]; rw [if_pos (by omega), if_pos (by omega), rd_cell' m j hj, if_pos (by omega), if_pos (by omega), rd_write _ i hi]) (Ev.bind (spec_ViewOk_ev m _ hm (hc.2 _ (List.getElem_mem hi))) ?_)
        exact Ev.ite_neg (by rw [hq]; simp) (Ev.now _)
    · refine Ev.one fun k => ?_
      simp only [spec_MemoryOk.l0, spec_l1In_eq, Option.bind_some]
      rw [if_pos (by omega), if_pos (by omega), if_pos (by omega), rd_cell' m j hj, if_neg h1]
theorem impl_MemoryOk_ev (m : List (List S43)) (hm : Small m) : Ev (fun k => impl_MemoryOk.f k m) (memOk m) := by
  have hl := hm.1
  refine all_loop (L := fun j k => impl_MemoryOk.l0 k m (m.length : Int) (j : Int) m) m (cellIn m) ?_ (fun j hj hp r ih => ?_) (fun j hj hp => ?_)
  · refine Ev.one fun k => ?_
    simp only [impl_MemoryOk.l0]
    rw [if_neg (by omega)]
    congr 1
    rw [Bool.eq_iff_iff]
    simp
    omega
  · have hc := hm.2 m[j] (List.getElem_mem hj)
    have h1 : inn (m[j].length : Int) 1 4000 = true := by unfold cellIn at hp; rw [Bool.and_eq_true] at hp; exact hp.1
    have h2 : m[j].all (fun w => viewOk m w.f1) = true := by unfold cellIn at hp; rw [Bool.and_eq_true] at hp; exact hp.2
    refine Ev.step (fun k => by simp only [impl_MemoryOk.l0, impl_within_eq, Option.bind_some]; rw [if_pos (by omega), if_pos (by omega), if_pos (by omega), rd_cell' m j hj, if_pos h1]) ?_
    refine yes_all (L := fun i k => impl_MemoryOk.l1 k m (m.length : Int) (j : Int) m[j] (m[j].length : Int) (i : Int) m) m[j] (fun w => viewOk m w.f1) h2 ?_ (fun i hi hq ih' => ?_)
    · exact Ev.step (fun k => by simp only [impl_MemoryOk.l1]; rw [if_neg (by omega), wrapS hj (by omega)]) ih
    · refine Ev.step (fun k => by simp only [impl_MemoryOk.l1]; rw [if_pos (by omega), if_pos (by omega), if_pos (by omega), rd_write _ i hi]) (Ev.bind (impl_ViewOk_ev m _ hm (hc.2 _ (List.getElem_mem hi))) ?_)
      refine Ev.ite_pos hq ?_
      rw [wrapS hi (by omega)]
      exact ih'
  · have hc := hm.2 m[j] (List.getElem_mem hj)
    by_cases h1 : inn (m[j].length : Int) 1 4000 = true
    · have h2 : m[j].all (fun w => viewOk m w.f1) = false := by unfold cellIn at hp; rwa [h1, Bool.true_and] at hp
      refine Ev.step (fun k => by simp only [impl_MemoryOk.l0, impl_within_eq, Option.bind_some]; rw [if_pos (by omega), if_pos (by omega), if_pos (by omega), rd_cell' m j hj, if_pos h1]) ?_
      refine no_all (L := fun i k => impl_MemoryOk.l1 k m (m.length : Int) (j : Int) m[j] (m[j].length : Int) (i : Int) m) m[j] (fun w => viewOk m w.f1) h2 (fun i hi hq ih' => ?_) (fun i hi hq => ?_)
      · refine Ev.step (fun k => by simp only [impl_MemoryOk.l1]; rw [if_pos (by omega), if_pos (by omega), if_pos (by omega), rd_write _ i hi]) (Ev.bind (impl_ViewOk_ev m _ hm (hc.2 _ (List.getElem_mem hi))) ?_)
        refine Ev.ite_pos hq ?_
        rw [wrapS hi (by omega)]
        exact ih'
      · refine Ev.step (fun k => by simp only [impl_MemoryOk.l1]; rw [if_pos (by omega), if_pos (by omega), if_pos (by omega), rd_write _ i hi]) (Ev.bind (impl_ViewOk_ev m _ hm (hc.2 _ (List.getElem_mem hi))) ?_)
        exact Ev.ite_neg (by rw [hq]; simp) (Ev.now _)
    · refine Ev.one fun k => ?_
      simp only [impl_MemoryOk.l0, impl_within_eq, Option.bind_some]
      rw [if_pos (by omega), if_pos (by omega), if_pos (by omega), rd_cell' m j hj, if_neg h1]
theorem mem_cell {m : List (List S43)} (h : memOk m = true) {b : Int} (h0 : 0 ≤ b) (h1 : b < 24) : b < (m.length : Int) ∧ 1 ≤ (m.getD b.toNat []).length ∧ (m.getD b.toNat []).length ≤ 4000 := by
  unfold memOk at h
  simp only [Bool.and_eq_true, decide_eq_true_eq] at h
  obtain ⟨ha, hl⟩ := h
  have hj : b.toNat < m.length := by omega
  have hc := List.all_eq_true.mp ha m[b.toNat] (List.getElem_mem hj)
  unfold cellIn inn at hc
  simp only [Bool.and_eq_true, decide_eq_true_eq] at hc
  have e : m.getD b.toNat [] = m[b.toNat] := by simp [List.getD_eq_getElem?_getD, hj]
  rw [e]
  omega
theorem impl_copyInts_eq (l : List Int) (h : l.length < 17592186044416) : impl_copyInts.f l = some l := by
  simp [impl_copyInts.f, h]
def jn (a b : List Int) : List Int := List.zipWith mx a b
theorem jn_length (a b : List Int) : (jn a b).length = min a.length b.length := by simp [jn]
theorem jn_step {a b : List Int} {j : Nat} (ha : j < a.length) (hb : j < b.length) : (jn a b).take (j + 1) = (jn a b).take j ++ [mx a[j] b[j]] := by
  rw [List.take_succ_eq_append_getElem (by rw [jn_length]; omega)]
  simp [jn]
theorem jn_take (a b : List Int) : (jn a b).take (min a.length b.length) = jn a b := List.take_of_length_le (by rw [jn_length]; omega)
theorem spec_l1Max_eq (a b : Int) : spec_l1Max.f a b = some (mx a b) := by
  unfold spec_l1Max.f mx
  by_cases h : a > b
  · rw [if_pos h, if_neg (by omega)]
  · by_cases e : a < b
    · rw [if_neg h, if_pos e]
    · rw [if_neg h, if_neg e, show a = b by omega]
theorem spec_Join_ev (a b : List Int) (h : a.length ≤ 17592186044415) : Ev (fun k => spec_Join.f k a b) (jn a b) := by
  have key := count_up (L := fun j k => spec_Join.l0 k a b ((jn a b).take j) (j : Int)) (R := fun _ => jn a b) (n := min a.length b.length)
    (Ev.one fun k => by
      simp only [spec_Join.l0]
      by_cases hc : ((min a.length b.length : Nat) : Int) < (a.length : Int)
      · rw [if_pos hc, if_neg (by omega), jn_take]
      · rw [if_neg hc, jn_take])
    (fun j hj ih => Ev.step (fun k => by
      simp only [spec_Join.l0]
      rw [if_pos (by omega), if_pos (by omega), if_pos (by omega), spec_l1Max_eq, Option.bind_some, if_pos (by simp [jn_length]; omega), rd_get (by omega), rd_get (by omega), ← jn_step (by omega) (by omega), wrapS (n := a.length) (by omega) (by omega)]) ih)
  exact key 0 (Nat.zero_le _)
theorem impl_Join_ev (a b : List Int) (h : a.length ≤ 17592186044415) : Ev (fun k => impl_Join.f k a b) (jn a b) := by
  have key := count_up (L := fun j k => impl_Join.l0 k a b ((jn a b).take j) (j : Int)) (R := fun _ => jn a b) (n := min a.length b.length)
    (Ev.one fun k => by
      simp only [impl_Join.l0]
      by_cases hc : ((min a.length b.length : Nat) : Int) < (a.length : Int)
      · rw [if_pos hc, if_neg (by omega), jn_take]
      · rw [if_neg hc, jn_take])
    (fun j hj ih => Ev.step (fun k => by
      simp only [impl_Join.l0]
      rw [if_pos (by omega), if_pos (by omega), if_pos (by omega), if_pos (by simp [jn_length]; omega), rd_get (by omega), rd_get (by omega), ← jn_step (by omega) (by omega), wrapS (n := a.length) (by omega) (by omega)]) ih)
  exact key 0 (Nat.zero_le _)
def rightOf (m : List (List S43)) (v : List Int) (cell : Int) : Bool := memOk m && viewOk m v && inn cell 0 23
theorem right_in {m : List (List S43)} {v : List Int} {cell : Int} (h : rightOf m v cell = true) :
    memOk m = true ∧ viewOk m v = true ∧ inn cell 0 23 = true ∧ 0 ≤ cell ∧ cell < (m.length : Int) ∧ cell < (v.length : Int) ∧ m.length = 24 ∧ v.length = 24 ∧ 1 ≤ (rd_L3 m cell).length ∧ (rd_L3 m cell).length ≤ 4000 ∧ 0 ≤ rd v cell ∧ rd v cell ≤ ((rd_L3 m cell).length : Int) - 1 := by
  simp only [rightOf, Bool.and_eq_true] at h
  obtain ⟨⟨hm, hv⟩, hc⟩ := h
  have hc' := hc
  simp only [inn, decide_eq_true_eq] at hc'
  obtain ⟨g1, g2, g3⟩ := mem_cell hm hc'.1 (by omega)
  have hm2 := hm
  simp only [memOk, Bool.and_eq_true, decide_eq_true_eq] at hm2
  have hv2 := hv
  simp only [viewOk, Bool.and_eq_true, decide_eq_true_eq] at hv2
  have e : rd_L3 m cell = m.getD cell.toNat [] := rfl
  have hin := List.all_eq_true.1 hv2.2 cell.toNat (List.mem_range.2 (by omega))
  simp only [viewIn, inn, decide_eq_true_eq] at hin
  have e2 : rd v cell = v.getD cell.toNat 0 := rfl
  rw [e, e2]
  exact ⟨hm, hv, hc, hc'.1, g1, by omega, hm2.2, by omega, g2, g3, hin.1, hin.2⟩
theorem spec_Right_ev (m : List (List S43)) (hm : Small m) (v : List Int) (hv : v.length ≤ 1048576) (cell : Int) : Ev (fun k => spec_l6Right.f k m v cell) (rightOf m v cell) := by
  simp only [spec_l6Right.f, spec_l1In_eq, Option.bind_some]
  refine Ev.bind (spec_MemoryOk_ev m hm) ?_
  unfold rightOf
  by_cases a1 : memOk m = true
  case neg => rw [show memOk m = false by simpa using a1]; exact Ev.ite_neg (by simp) (Ev.now _)
  rw [a1]
  refine Ev.ite_pos rfl (Ev.bind (spec_ViewOk_ev m v hm hv) ?_)
  by_cases a2 : viewOk m v = true
  case neg => rw [show viewOk m v = false by simpa using a2]; exact Ev.ite_neg (by simp) (Ev.now _)
  rw [a2]
  simp only [Bool.true_and]
  exact Ev.ite_pos (by simp) (Ev.now _)
theorem impl_isCell_eq (c : Int) : impl_isCell.f c = some (inn c 0 23) := by simp [impl_isCell.f, impl_within_eq]
def whichOf (m : List (List S43)) (v : List Int) (cell late : Int) : Int := mx (((rd_L3 m cell).length : Int) - 1 - mx late 0) (rd v cell)
def loadOf (m : List (List S43)) (v : List Int) (cell late : Int) (hold : Bool) : Int × List Int :=
  ((rd_T43 (rd_L3 m cell) (whichOf m v cell late)).f0, if hold = true then jn (v.set cell.toNat (whichOf m v cell late)) (rd_T43 (rd_L3 m cell) (whichOf m v cell late)).f1 else v.set cell.toNat (whichOf m v cell late))
theorem which_in {m : List (List S43)} {v : List Int} {cell late : Int} (h : rightOf m v cell = true) : 0 ≤ whichOf m v cell late ∧ whichOf m v cell late < ((rd_L3 m cell).length : Int) := by
  obtain ⟨-, -, -, -, -, -, -, -, g1, g2, g3, g4⟩ := right_in h
  unfold whichOf mx
  split <;> split <;> omega
theorem late_wrap {late n : Int} (h0 : -9223372036854775808 ≤ late) (h1 : late ≤ 9223372036854775807) (hn : 1 ≤ n) (hn1 : n ≤ 4000) : wrap64 (wrap64 (n - 1) - mx late 0) = n - 1 - mx late 0 := by
  rw [wrap_in (n := n - 1) (by omega) (by omega)]
  refine wrap_in ?_ ?_ <;> (unfold mx; split <;> omega)
theorem impl_load_ev (m : List (List S43)) (v : List Int) (cell late : Int) (hold : Bool) (h : rightOf m v cell = true) (h0 : -9223372036854775808 ≤ late) (h1 : late ≤ 9223372036854775807) :
    Ev (fun k => impl_Memory_load.f k m v cell late hold) (loadOf m v cell late hold) := by
  obtain ⟨-, -, -, c0, c1, c2, -, cv, g1, g2, g3, g4⟩ := right_in h
  obtain ⟨w0, w1⟩ := which_in (late := late) h
  simp only [impl_Memory_load.f, late_wrap h0 h1 (n := ((rd_L3 m cell).length : Int)) (by omega) (by omega)]
  refine Ev.ite_pos c0 (Ev.ite_pos c1 (Ev.ite_pos c2 ?_))
  rw [impl_copyInts_eq v (by omega)]
  simp only [Option.bind_some]
  refine Ev.ite_pos c2 ?_
  refine Ev.ite_pos w0 (Ev.ite_pos w1 ?_)
  unfold loadOf
  cases hold
  · exact Ev.ite_neg (by simp) (Ev.now _)
  · refine Ev.ite_pos rfl ?_
    refine Ev.bind (impl_Join_ev _ _ (by rw [List.length_set]; omega)) ?_
    exact Ev.now _
theorem spec_load_ev (m : List (List S43)) (v : List Int) (cell late : Int) (hold : Bool) (h : rightOf m v cell = true) (h0 : -9223372036854775808 ≤ late) (h1 : late ≤ 9223372036854775807) :
    Ev (fun k => spec_l6Load.f k m v cell late hold) (loadOf m v cell late hold) := by
  obtain ⟨-, -, -, c0, c1, c2, -, cv, g1, g2, g3, g4⟩ := right_in h
  obtain ⟨w0, w1⟩ := which_in (late := late) h
  simp only [spec_l6Load.f, spec_l1Max_eq, Option.bind_some, late_wrap h0 h1 (n := ((rd_L3 m cell).length : Int)) (by omega) (by omega)]
  refine Ev.ite_pos c0 (Ev.ite_pos c1 (Ev.ite_pos c2 ?_))
  refine Ev.ite_pos (by simp; omega) ?_
  rw [List.nil_append]
  refine Ev.ite_pos c2 ?_
  unfold loadOf
  cases hold
  · refine Ev.ite_neg (by simp) (Ev.ite_pos w0 (Ev.ite_pos w1 (Ev.now _)))
  · refine Ev.ite_pos rfl (Ev.ite_pos w0 (Ev.ite_pos w1 ?_))
    refine Ev.bind (spec_Join_ev _ _ (by rw [List.length_set]; omega)) ?_
    exact Ev.now _
theorem impl_copyMemory_ev (m : List (List S43)) (hm : Small m) : Ev (fun k => impl_copyMemory.f k m) m := by
  have key := count_up (L := fun j k => impl_copyMemory.l0 k m (m.length : Int) (j : Int) (m.take j)) (R := fun _ => m) (n := m.length)
    (Ev.one fun k => by
      simp only [impl_copyMemory.l0]
      rw [if_neg (by omega), List.take_length])
    (fun i hi ih => by
      have hs := hm.2 m[i] (List.getElem_mem hi)
      have hm1 := hm.1
      have rd_e : rd_L3 m (i : Int) = m[i] := rd_cell' m i hi
      refine Ev.step (fun k => by simp only [impl_copyMemory.l0]; rw [if_pos (by omega), if_pos (by omega), if_pos (by omega), rd_e]) ?_
      have inner := count_up (L := fun j k => impl_copyMemory.l1 k (m[i].take j) m (m.length : Int) (i : Int) m[i] (m[i].length : Int) (j : Int) (m.take i)) (R := fun _ => m) (n := m[i].length)
        (Ev.step (fun k => by
          simp only [impl_copyMemory.l1]
          rw [if_neg (by omega), if_pos (by rw [List.length_take]; omega), List.take_length, ← List.take_succ_eq_append_getElem hi, wrapS hi (by omega)]) ih)
        (fun j hj ih2 => Ev.step (fun k => by
          have hw := hs.2 m[i][j] (List.getElem_mem hj)
          simp only [impl_copyMemory.l1]
          rw [if_pos (by omega), if_pos (by omega), if_pos (by omega), rd_write m[i] j hj, impl_copyInts_eq _ (by omega), Option.bind_some, if_pos (by rw [List.length_take]; omega), wrapS hj (by omega)]
          rw [show ([⟨m[i][j].f0, m[i][j].f1⟩] : List S43) = [m[i][j]] from rfl, ← List.take_succ_eq_append_getElem hj]) ih2)
      exact inner 0 (Nat.zero_le _))
  exact key 0 (Nat.zero_le _)
def viewSt (m : List (List S43)) (v : List Int) (cell : Int) : List Int := v.set cell.toNat ((rd_L3 m cell).length : Int)
def toldOf (v : List Int) (cell : Int) (letGo : Bool) : List Int := if letGo = true then v else (List.replicate 24 0).set cell.toNat (rd v cell)
def storeOf (m : List (List S43)) (v : List Int) (cell x : Int) (letGo : Bool) : List (List S43) × List Int :=
  (m.set cell.toNat (rd_L3 m cell ++ [⟨x, toldOf (viewSt m v cell) cell letGo⟩]), viewSt m v cell)
def canSt (m : List (List S43)) (v : List Int) (cell : Int) : Bool := rightOf m v cell && decide ((rd_L3 m cell).length < 4000)
def storeAll (m : List (List S43)) (v : List Int) (cell x : Int) (letGo : Bool) : List (List S43) × List Int := if canSt m v cell = true then storeOf m v cell x letGo else (m, v)
theorem impl_Memory_store_of (m : List (List S43)) (v : List Int) (cell x : Int) (letGo : Bool) (c0 : 0 ≤ cell) (c1 : cell < (m.length : Int)) (c2 : cell < (v.length : Int)) (cv : v.length = 24) (g2 : (rd_L3 m cell).length ≤ 4000) : impl_Memory_store.f m v cell x letGo = some (storeOf m v cell x letGo) := by
  have hv : (viewSt m v cell).length = 24 := by simp [viewSt, cv]
  simp only [impl_Memory_store.f]
  rw [impl_copyInts_eq v (by omega), Option.bind_some, if_pos c0, if_pos c1, if_pos c2, Option.bind_some, if_pos (by omega), if_pos (by rw [List.length_replicate]; omega)]
  have e : v.set cell.toNat ((rd_L3 m cell).length : Int) = viewSt m v cell := rfl
  rw [e]
  unfold storeOf toldOf
  cases letGo
  · rw [if_neg (by simp), if_pos (by omega), if_neg (by simp)]
  · rw [if_pos rfl, impl_copyInts_eq _ (by omega), Option.bind_some, if_pos (by omega), if_pos rfl]
theorem impl_Memory_store_eq (m : List (List S43)) (v : List Int) (cell x : Int) (letGo : Bool) (h : rightOf m v cell = true) : impl_Memory_store.f m v cell x letGo = some (storeOf m v cell x letGo) := by
  obtain ⟨-, -, -, c0, c1, c2, -, cv, g1, g2, g3, g4⟩ := right_in h
  exact impl_Memory_store_of m v cell x letGo c0 c1 c2 cv g2
theorem impl_Store_ev (m : List (List S43)) (hm : Small m) (v : List Int) (hv : v.length ≤ 1048576) (cell x : Int) (letGo : Bool) : Ev (fun k => impl_Store.f k m v cell x letGo) (storeAll m v cell x letGo) := by
  simp only [impl_Store.f, impl_isCell_eq, Option.bind_some]
  refine Ev.bind (impl_copyMemory_ev m hm) ?_
  refine Ev.bind (impl_MemoryOk_ev m hm) ?_
  have copied : ∀ b, b = true → Ev (fun k => impl_Store.j0 k v cell x letGo b m) (m, v) := by
    rintro b rfl
    refine Ev.one fun k => ?_
    simp only [impl_Store.j0]
    rw [if_pos trivial, impl_copyInts_eq v (by omega), Option.bind_some]
  unfold storeAll
  by_cases a1 : memOk m = true
  case neg => rw [if_neg (fun c => a1 (by simp only [canSt, rightOf, Bool.and_eq_true] at c; exact c.1.1.1))]; exact Ev.ite_neg a1 (copied _ rfl)
  refine Ev.ite_pos a1 (Ev.bind (impl_ViewOk_ev m v hm hv) ?_)
  by_cases a2 : viewOk m v = true
  case neg => rw [if_neg (fun c => a2 (by simp only [canSt, rightOf, Bool.and_eq_true] at c; exact c.1.1.2))]; exact Ev.ite_neg a2 (copied _ rfl)
  refine Ev.ite_pos a2 ?_
  by_cases a3 : inn cell 0 23 = true
  case neg => rw [if_neg (fun c => a3 (by simp only [canSt, rightOf, Bool.and_eq_true] at c; exact c.1.2))]; exact Ev.ite_neg a3 (copied _ rfl)
  refine Ev.ite_pos a3 ?_
  have hr : rightOf m v cell = true := by simp [rightOf, a1, a2, a3]
  obtain ⟨-, -, -, c0, c1, -, -, -, -, -, -, -⟩ := right_in hr
  simp only [impl_Memory_hasRoom.f, if_pos c0, if_pos c1, Option.bind_some]
  by_cases hl : (rd_L3 m cell).length < 4000
  · rw [if_pos (by simp [canSt, hr, hl])]
    refine Ev.one fun k => ?_
    simp only [impl_Store.j0]
    rw [if_neg (by simp; omega), impl_Memory_store_eq m v cell x letGo hr, Option.bind_some]
  · rw [if_neg (by simp [canSt, hl])]
    exact copied _ (by simp; omega)
def cell0 : List S43 := [⟨0, List.replicate 24 0⟩]
def mem0 : List (List S43) := List.replicate 24 cell0
theorem mem0_step {j : Nat} (h : j < 24) : List.replicate j cell0 ++ [cell0] = List.replicate (j + 1) cell0 := List.replicate_succ'.symm
theorem impl_MemoryNew_ev : Ev (fun k => impl_MemoryNew.f k) mem0 := by
  have key := count_up (L := fun j k => impl_MemoryNew.l0 k (j : Int) (List.replicate j cell0)) (R := fun _ => mem0) (n := 24)
    (Ev.one fun k => by
      simp only [impl_MemoryNew.l0]
      rw [if_neg (by omega)]
      rfl)
    (fun j hj ih => Ev.step (fun k => by
      simp only [impl_MemoryNew.l0]
      rw [if_pos (by omega), if_pos (by omega), if_pos (by rw [List.length_replicate]; omega), wrapS (n := 24) (by omega) (by omega)]
      rw [show ([⟨0, List.replicate 24 0⟩] : List S43) = cell0 from rfl, mem0_step hj]) ih)
  exact key 0 (Nat.zero_le _)
theorem small_ok {m : List (List S43)} (h : memOk m = true) : Small m := by
  simp only [memOk, Bool.and_eq_true, decide_eq_true_eq] at h
  refine ⟨by omega, fun c hc => ?_⟩
  have h1 := List.all_eq_true.1 h.1 c hc
  simp only [cellIn, inn, Bool.and_eq_true, decide_eq_true_eq] at h1
  refine ⟨by omega, fun w hw => ?_⟩
  have h2 := List.all_eq_true.1 h1.2 w hw
  simp only [viewOk, Bool.and_eq_true, decide_eq_true_eq] at h2
  omega
theorem viewOk_iff (m : List (List S43)) (v : List Int) : viewOk m v = true ↔ v.length = m.length ∧ ∀ j, j < v.length → 0 ≤ v.getD j 0 ∧ v.getD j 0 ≤ ((m.getD j []).length : Int) - 1 := by
  simp only [viewOk, Bool.and_eq_true, decide_eq_true_eq, List.all_eq_true, List.mem_range, viewIn, inn]
theorem getD_set {α : Type} (l : List α) (i j : Nat) (x d : α) (hi : i < l.length) : (l.set i x).getD j d = if i = j then x else l.getD j d := by
  simp only [List.getD_eq_getElem?_getD, List.getElem?_set]
  by_cases e : i = j
  · subst e; simp [hi]
  · simp [e]
theorem rep_zero (n j : Nat) : (List.replicate n (0 : Int)).getD j 0 = 0 := by
  rw [List.getD_eq_getElem?_getD, List.getElem?_replicate]
  split <;> rfl
theorem viewOk_grow {m : List (List S43)} {i : Nat} (hi : i < m.length) {c : List S43} (hc : (m.getD i []).length ≤ c.length) {u : List Int} (h : viewOk m u = true) : viewOk (m.set i c) u = true := by
  rw [viewOk_iff] at h ⊢
  refine ⟨by rw [List.length_set]; exact h.1, fun j hj => ?_⟩
  obtain ⟨h1, h2⟩ := h.2 j hj
  refine ⟨h1, ?_⟩
  rw [getD_set _ _ _ _ _ hi]
  split
  · next e => subst e; omega
  · exact h2
theorem store_right {m : List (List S43)} {v : List Int} {cell : Int} (hm : memOk m = true) (hv : viewOk m v = true) (c0 : 0 ≤ cell) (c1 : cell < 24) (hl : (rd_L3 m cell).length < 4000) (x : Int) (g : Bool) :
    memOk (storeOf m v cell x g).1 = true ∧ viewOk (storeOf m v cell x g).1 (storeOf m v cell x g).2 = true := by
  have hm2 := hm
  simp only [memOk, Bool.and_eq_true, decide_eq_true_eq] at hm2
  have hi : cell.toNat < m.length := by omega
  have e : rd_L3 m cell = m.getD cell.toNat [] := rfl
  have e2 : m.getD cell.toNat [] = m[cell.toNat] := by simp [List.getD_eq_getElem?_getD, hi]
  obtain ⟨-, g1, g2⟩ := mem_cell hm c0 c1
  have hv2 := (viewOk_iff m v).1 hv
  have hc : (m.getD cell.toNat []).length ≤ (rd_L3 m cell ++ [(⟨x, toldOf (viewSt m v cell) cell g⟩ : S43)]).length := by rw [e, List.length_append]; omega
  have len2 : (rd_L3 m cell ++ [(⟨x, toldOf (viewSt m v cell) cell g⟩ : S43)]).length = (m.getD cell.toNat []).length + 1 := by rw [e, List.length_append]; rfl
  have hst : viewOk (storeOf m v cell x g).1 (viewSt m v cell) = true := by
    rw [viewOk_iff]
    refine ⟨by simp [storeOf, viewSt, hv2.1], fun j hj => ?_⟩
    have hj2 : j < v.length := by simpa [viewSt] using hj
    obtain ⟨h1, h2⟩ := hv2.2 j hj2
    simp only [storeOf, viewSt]
    rw [getD_set _ _ _ _ _ hi, getD_set _ _ _ _ _ (by omega)]
    by_cases ej : cell.toNat = j
    · rw [if_pos ej, if_pos ej, List.length_append, e]
      simp only [List.length_cons, List.length_nil]
      omega
    · rw [if_neg ej, if_neg ej]; exact ⟨h1, h2⟩
  have htold : viewOk (storeOf m v cell x g).1 (toldOf (viewSt m v cell) cell g) = true := by
    unfold toldOf
    cases g
    · rw [if_neg (by simp), viewOk_iff]
      refine ⟨by simp [storeOf]; omega, fun j hj => ?_⟩
      have hj2 : j < 24 := by simpa using hj
      have hjc := mem_cell hm (b := (j : Int)) (by omega) (by omega)
      have er : rd (viewSt m v cell) cell = ((rd_L3 m cell).length : Int) := by
        show (viewSt m v cell).getD cell.toNat 0 = _
        unfold viewSt
        rw [getD_set _ _ _ _ _ (by omega), if_pos rfl]
      simp only [storeOf]
      rw [getD_set _ _ _ _ _ hi, getD_set _ _ _ _ _ (by simp; omega), er]
      by_cases ej : cell.toNat = j
      · rw [if_pos ej, if_pos ej]
        simp only [toldOf] at len2 ⊢
        rw [e, List.length_append]
        simp only [List.length_cons, List.length_nil]
        omega
      · rw [if_neg ej, if_neg ej]
        rw [rep_zero]
        have e3 : ((j : Int)).toNat = j := by omega
        rw [e3] at hjc
        omega
    · rw [if_pos rfl]; exact hst
  refine ⟨?_, hst⟩
  simp only [memOk, Bool.and_eq_true, decide_eq_true_eq, List.all_eq_true]
  refine ⟨fun c hcm => ?_, by simp [storeOf]; omega⟩
  have key : ∀ u, viewOk m u = true → viewOk (storeOf m v cell x g).1 u = true := fun u hu => viewOk_grow hi hc hu
  rcases List.mem_or_eq_of_mem_set (show c ∈ m.set cell.toNat _ from hcm) with h1 | h1
  · have h2 := List.all_eq_true.1 hm2.1 c h1
    simp only [cellIn, Bool.and_eq_true, List.all_eq_true] at h2 ⊢
    exact ⟨h2.1, fun w hw => key _ (h2.2 w hw)⟩
  · subst h1
    have h2 := List.all_eq_true.1 hm2.1 m[cell.toNat] (List.getElem_mem hi)
    simp only [cellIn, Bool.and_eq_true, List.all_eq_true] at h2 ⊢
    refine ⟨by rw [len2]; simp only [inn, decide_eq_true_eq]; rw [e2] at g1 g2; rw [e, e2] at hl; rw [e2]; omega, fun w hw => ?_⟩
    rcases List.mem_append.1 hw with hw | hw
    · rw [e, e2] at hw
      exact key _ (h2.2 w hw)
    · rw [List.mem_singleton.1 hw]; exact htold
def loadAll (m : List (List S43)) (v : List Int) (cell late : Int) (hold : Bool) : Int × List Int := if rightOf m v cell = true then loadOf m v cell late hold else (0, v)
theorem impl_Load_ev (m : List (List S43)) (hm : Small m) (v : List Int) (hv : v.length ≤ 1048576) (cell late : Int) (hold : Bool) (h0 : -9223372036854775808 ≤ late) (h1 : late ≤ 9223372036854775807) :
    Ev (fun k => impl_Load.f k m v cell late hold) (loadAll m v cell late hold) := by
  simp only [impl_Load.f, Option.bind_some, impl_isCell_eq]
  have copied : ∀ b, b = true → Ev (fun k => impl_Load.j0 k v cell late hold b m) (0, v) := by
    rintro b rfl
    refine Ev.one fun k => ?_
    simp only [impl_Load.j0]
    rw [if_pos trivial, impl_copyInts_eq v (by omega), Option.bind_some]
  unfold loadAll
  refine Ev.bind (impl_MemoryOk_ev m hm) ?_
  by_cases a1 : memOk m = true
  case neg => rw [if_neg (fun c => a1 (right_in c).1)]; exact Ev.ite_neg a1 (copied _ rfl)
  refine Ev.ite_pos a1 (Ev.bind (impl_ViewOk_ev m v hm hv) ?_)
  by_cases a2 : viewOk m v = true
  case neg => rw [if_neg (fun c => a2 (right_in c).2.1)]; exact Ev.ite_neg a2 (copied _ rfl)
  refine Ev.ite_pos a2 ?_
  by_cases a3 : inn cell 0 23 = true
  case neg => rw [if_neg (fun c => a3 (right_in c).2.2.1)]; exact copied _ (by simp [a3])
  have hr : rightOf m v cell = true := by simp [rightOf, a1, a2, a3]
  rw [if_pos hr]
  refine Ev.step (fun k => by simp only [impl_Load.j0]; rw [if_neg (by simp [a3])]) ?_
  exact Ev.bind (impl_load_ev m v cell late hold hr h0 h1) (Ev.now _)
theorem spec_Load_ev (m : List (List S43)) (hm : Small m) (v : List Int) (hv : v.length ≤ 1048576) (cell late : Int) (hold : Bool) (h0 : -9223372036854775808 ≤ late) (h1 : late ≤ 9223372036854775807) :
    Ev (fun k => spec_Load.f k m v cell late hold) (loadAll m v cell late hold) := by
  simp only [spec_Load.f, Option.bind_some]
  refine Ev.bind (spec_Right_ev m hm v hv cell) ?_
  unfold loadAll
  by_cases hr : rightOf m v cell = true
  · rw [if_pos hr]
    refine Ev.ite_pos hr ?_
    exact Ev.bind (spec_load_ev m v cell late hold hr h0 h1) (Ev.now _)
  · rw [if_neg hr]
    refine Ev.ite_neg hr (Ev.ite_pos (by simp; omega) ?_)
    exact Ev.now _
def geq : List Int → List Int → Bool
  | [], [] => true
  | x :: xs, y :: ys => decide (y ≤ x) && geq xs ys
  | _, _ => false
theorem geq_step {a b : List Int} {j : Nat} (ha : j < a.length) (hb : j < b.length) : geq (a.drop j) (b.drop j) = (decide (b[j] ≤ a[j]) && geq (a.drop (j + 1)) (b.drop (j + 1))) := by
  rw [List.drop_eq_getElem_cons ha, List.drop_eq_getElem_cons hb, geq]
theorem geq_len : ∀ {a b : List Int}, a.length ≠ b.length → geq a b = false
  | [], [], h => by simp at h
  | [], _ :: _, _ => rfl
  | _ :: _, [], _ => rfl
  | x :: xs, y :: ys, h => by
    have := geq_len (a := xs) (b := ys) (by simpa using h)
    simp [geq, this]
theorem geq_end {a b : List Int} {n : Nat} (h : n = min a.length b.length) : geq (a.drop n) (b.drop n) = ((a.length : Int) == (b.length : Int)) := by
  by_cases e : a.length = b.length
  · have h1 : a.drop n = [] := by simp; omega
    have h2 : b.drop n = [] := by simp; omega
    simp [h1, h2, geq, e]
  · rw [geq_len (by simp; omega)]
    symm
    simp
    omega
theorem impl_Knows_ev (a b : List Int) (h : a.length ≤ 9223372036854775807) : Ev (fun k => impl_Knows.f k a b) (geq a b) := by
  by_cases hl : a.length = b.length
  · have key := count_up (L := fun j k => impl_Knows.l0 k a b (b.length : Int) (j : Int)) (R := fun j => geq (a.drop j) (b.drop j)) (n := b.length)
      (Ev.one fun k => by
        simp only [impl_Knows.l0]
        rw [if_neg (by omega), geq_end (by omega)]
        simp [hl])
      (fun j hj ih => by
        by_cases e : a[j]'(by omega) < b[j]'(by omega)
        · refine Ev.one fun k => ?_
          simp only [impl_Knows.l0]
          rw [if_pos (by omega), if_pos (by omega), if_pos (by omega), if_pos (by omega), if_pos (by rw [rd_get (by omega), rd_get (by omega)]; exact e), geq_step (by omega) (by omega), decide_eq_false (by omega)]
          rfl
        · refine Ev.step (fun k => ?_) (by rw [geq_step (by omega) (by omega), decide_eq_true (by omega), Bool.true_and]; exact ih)
          simp only [impl_Knows.l0]
          rw [if_pos (by omega), if_pos (by omega), if_pos (by omega), if_pos (by omega), if_neg (by rw [rd_get (by omega), rd_get (by omega)]; exact e), wrapS hj (by omega)])
    refine Ev.congr (fun k => ?_) (key 0 (Nat.zero_le _))
    unfold impl_Knows.f
    rw [if_pos (by omega)]
    rfl
  · refine Ev.all fun k => ?_
    unfold impl_Knows.f
    rw [if_neg (by omega), geq_len hl]
theorem u8_in {n : Int} (h : (Lit.int .u8 n).wf = true) : 0 ≤ n ∧ n ≤ 255 := by
  have h' : IntKind.min .u8 ≤ n ∧ n ≤ IntKind.max .u8 := by simpa [Lit.wf] using h
  exact h'
theorem at_in (code : List Int) (i : Int) (hi : 0 ≤ i) (hi2 : i ≤ 100) (hc : code.length ≤ 1048576) (hb : ∀ x ∈ code, 0 ≤ x ∧ x ≤ 255) : ∃ x, laws_at.f code i = some x ∧ 0 ≤ x ∧ x ≤ 255 := by
  unfold laws_at.f
  by_cases h : i < (code.length : Int)
  · rw [if_pos h, if_pos hi]
    have hl : i.toNat < code.length := by omega
    have e : rd code i = code[i.toNat] := by simp [rd, List.getD_eq_getElem?_getD, hl]
    have := hb _ (List.getElem_mem hl)
    rw [e, wrap_in (by omega) (by omega)]
    exact ⟨_, rfl, this⟩
  · rw [if_neg h, wrap_in (n := i * 7) (by omega) (by omega), wrap_in (n := i * 7 + (code.length : Int)) (by omega) (by omega)]
    exact ⟨_, rfl, Int.tmod_nonneg _ (by omega), by have := Int.tmod_lt_of_pos (i * 7 + (code.length : Int)) (b := 256) (by omega); omega⟩
def z24 : List Int := List.replicate 24 0
def told1 : List Int := z24.set 1 1
def told2 : List Int := told1.set 2 1
def memA (v : Int) : List (List S43) := mem0.set 1 (cell0 ++ [⟨v, told1⟩])
def memB (v : Int) : List (List S43) := (memA v).set 2 (cell0 ++ [⟨1, told2⟩])
theorem mem0_ok : memOk mem0 = true ∧ viewOk mem0 z24 = true := ⟨by decide +kernel, by decide +kernel⟩
theorem storeA (v : Int) : storeAll mem0 z24 1 v false = (memA v, told1) := by
  have h : canSt mem0 z24 1 = true := by decide +kernel
  unfold storeAll
  rw [if_pos h]
  rfl
theorem memA_ok (v : Int) : memOk (memA v) = true ∧ viewOk (memA v) told1 = true := store_right mem0_ok.1 mem0_ok.2 (cell := 1) (by omega) (by omega) (by decide +kernel) v false
theorem storeB (v : Int) : storeAll (memA v) told1 2 1 true = (memB v, told2) := by
  have h : canSt (memA v) told1 2 = true := by
    simp only [canSt, rightOf, memA_ok v]
    rfl
  unfold storeAll
  rw [if_pos h]
  rfl
theorem memB_ok (v : Int) : memOk (memB v) = true ∧ viewOk (memB v) told2 = true := store_right (memA_ok v).1 (memA_ok v).2 (cell := 2) (by omega) (by omega) (by show (2 : Nat) - 1 < 4000; omega) 1 true
theorem view_two (v a b : Int) (ha : 0 ≤ a ∧ a ≤ 1) (hb : 0 ≤ b ∧ b ≤ 1) : viewOk (memB v) ((z24.set 1 a).set 2 b) = true := by
  rw [viewOk_iff]
  refine ⟨rfl, fun j hj => ?_⟩
  have hj2 : j < 24 := by simpa [z24] using hj
  have hl : ((memB v).getD j []).length = if j = 1 ∨ j = 2 then 2 else 1 := by
    unfold memB memA
    rw [getD_set _ _ _ _ _ (by simp [mem0]), getD_set _ _ _ _ _ (by simp [mem0])]
    have h0 : (mem0.getD j []).length = 1 := by
      unfold mem0
      rw [List.getD_eq_getElem?_getD, List.getElem?_replicate, if_pos hj2]
      rfl
    by_cases e2 : j = 2
    · subst e2; rfl
    · rw [if_neg (by omega)]
      by_cases e1 : j = 1
      · subst e1; rfl
      · rw [if_neg (by omega), if_neg (by omega), h0]
  rw [hl, getD_set _ _ _ _ _ (by simp [z24]), getD_set _ _ _ _ _ (by simp [z24])]
  have h0 : z24.getD j 0 = 0 := rep_zero 24 j
  by_cases e2 : 2 = j
  · rw [if_pos e2, if_pos (by omega)]; omega
  · rw [if_neg e2]
    by_cases e1 : 1 = j
    · rw [if_pos e1, if_pos (by omega)]; omega
    · rw [if_neg e1, if_neg (by omega), h0]; omega
theorem rightB (v a b : Int) (cell : Int) (ha : 0 ≤ a ∧ a ≤ 1) (hb : 0 ≤ b ∧ b ≤ 1) (hc : inn cell 0 23 = true) : rightOf (memB v) ((z24.set 1 a).set 2 b) cell = true := by
  simp only [rightOf, memB_ok v, view_two v a b ha hb, hc]
  rfl
theorem len_cell1 (v : Int) : ((rd_L3 (memB v) 1).length : Int) = 2 := rfl
theorem len_cell2 (v : Int) : ((rd_L3 (memB v) 2).length : Int) = 2 := rfl
theorem which_eq (v late : Int) (u : List Int) (cell r : Int) (hl : ((rd_L3 (memB v) cell).length : Int) = 2) (h : mx (1 - mx late 0) (rd u cell) = r) : whichOf (memB v) u cell late = r := by
  unfold whichOf
  rw [hl]
  exact h
theorem loadB (v a b cell late : Int) (hold : Bool) (ha : 0 ≤ a ∧ a ≤ 1) (hb : 0 ≤ b ∧ b ≤ 1) (hc : inn cell 0 23 = true) : loadAll (memB v) ((z24.set 1 a).set 2 b) cell late hold = loadOf (memB v) ((z24.set 1 a).set 2 b) cell late hold := by
  unfold loadAll
  rw [if_pos (rightB v a b cell ha hb hc)]
theorem FnMessage (x0 : (List Int)) (ok0 : (x0.length ≤ maxLen ∧ ∀ z ∈ x0, ((Lit.int .u8 z).wf = true))) : ∃ k, laws_FnMessage.f k x0 = some true := by
  have hl := ok0.1
  unfold maxLen at hl
  refine Ev.rounds (g := fun k => laws_FnMessage.f k x0) ?_
  simp only [laws_FnMessage.f, laws_big.f, Option.bind_some, decide_eq_true_eq]
  by_cases hb : (x0.length : Int) > 1048576
  · exact Ev.ite_pos hb (Ev.now _)
  refine Ev.ite_neg hb ?_
  have hbyte : ∀ x ∈ x0, 0 ≤ x ∧ x ≤ 255 := fun x hx => u8_in (ok0.2 x hx)
  obtain ⟨a1, e1, p1, q1⟩ := at_in x0 1 (by omega) (by omega) (by omega) hbyte
  obtain ⟨a2, e2, p2, q2⟩ := at_in x0 2 (by omega) (by omega) (by omega) hbyte
  have hz : List.replicate 24 (0 : Int) = z24 := rfl
  rw [hz]
  simp only [e1, e2, Option.bind_some]
  rw [wrap_in (n := 1 + a1) (by omega) (by omega), wrap_in (n := 1 + a2) (by omega) (by omega)]
  have sB := small_ok (memB_ok (1 + a1)).1
  have sA := small_ok (memA_ok (1 + a1)).1
  have s0 := small_ok mem0_ok.1
  have zz : z24 = (z24.set 1 0).set 2 0 := rfl
  have h1 : loadAll (memB (1 + a1)) z24 2 0 true = (1, told2) := by
    rw [zz, loadB _ 0 0 2 0 true (by omega) (by omega) (by decide)]
    unfold loadOf
    rw [which_eq _ 0 _ 2 1 (len_cell2 _) (by decide)]
    rfl
  have h2 : loadAll (memB (1 + a1)) z24 2 0 false = (1, (z24.set 1 0).set 2 1) := by
    rw [zz, loadB _ 0 0 2 0 false (by omega) (by omega) (by decide)]
    unfold loadOf
    rw [which_eq _ 0 _ 2 1 (len_cell2 _) (by decide)]
    rfl
  have h3 : (loadAll (memB (1 + a1)) told2 1 a2 false).1 = 1 + a1 := by
    rw [show told2 = (z24.set 1 1).set 2 1 from rfl, loadB _ 1 1 1 a2 false (by omega) (by omega) (by decide)]
    unfold loadOf
    rw [which_eq _ a2 _ 1 1 (len_cell1 _) (by rw [show rd ((z24.set 1 1).set 2 1) 1 = 1 from rfl]; unfold mx; split <;> split <;> omega)]
    rfl
  have h4 : (loadAll (memB (1 + a1)) ((z24.set 1 0).set 2 1) 1 (1 + a2) false).1 = 0 := by
    rw [loadB _ 0 1 1 (1 + a2) false (by omega) (by omega) (by decide)]
    unfold loadOf
    rw [which_eq _ (1 + a2) _ 1 0 (len_cell1 _) (by rw [show rd ((z24.set 1 0).set 2 1) 1 = 0 from rfl]; unfold mx; split <;> split <;> omega)]
    rfl
  have h5 : (loadAll (memB (1 + a1)) ((z24.set 1 0).set 2 1) 1 0 false).1 = 1 + a1 := by
    rw [loadB _ 0 1 1 0 false (by omega) (by omega) (by decide)]
    unfold loadOf
    rw [which_eq _ 0 _ 1 1 (len_cell1 _) (by decide)]
    rfl
  refine Ev.bind impl_MemoryNew_ev ?_
  refine Ev.ite_pos (by omega) ?_
  refine Ev.bind (impl_Store_ev mem0 s0 z24 (by decide) 1 (1 + a1) false) ?_
  rw [storeA]
  refine Ev.bind (impl_Store_ev (memA (1 + a1)) sA told1 (by decide) 2 1 true) ?_
  rw [storeB]
  dsimp only
  refine Ev.bind (impl_Load_ev (memB (1 + a1)) sB z24 (by decide) 2 0 true (by omega) (by omega)) ?_
  rw [h1]
  refine Ev.bind (impl_Load_ev (memB (1 + a1)) sB z24 (by decide) 2 0 false (by omega) (by omega)) ?_
  rw [h2]
  dsimp only
  refine Ev.bind (impl_Load_ev (memB (1 + a1)) sB told2 (by decide) 1 a2 false (by omega) (by omega)) ?_
  refine Ev.bind (impl_Load_ev (memB (1 + a1)) sB ((z24.set 1 0).set 2 1) (by decide) 1 (1 + a2) false (by omega) (by omega)) ?_
  refine Ev.bind (impl_Load_ev (memB (1 + a1)) sB ((z24.set 1 0).set 2 1) (by decide) 1 0 false (by omega) (by omega)) ?_
  refine Ev.bind (spec_Load_ev (memB (1 + a1)) sB told2 (by decide) 1 a2 false (by omega) (by omega)) ?_
  refine Ev.ite_pos rfl ?_
  refine Ev.ite_pos h3 (Ev.ite_pos h3 (Ev.ite_pos h4 (Ev.ite_pos h5 ?_)))
  refine Ev.bind (impl_Knows_ev told2 ((z24.set 1 0).set 2 1) (by decide)) ?_
  refine Ev.ite_pos (by decide) ?_
  refine Ev.bind (impl_Knows_ev told2 told2 (by decide)) ?_
  exact Ev.val (by decide) (Ev.now _)
end Go.Proofs.Ythbcnakmnbilhaa.Pure
namespace Go.Proofs.Ythbcnakmnbilhaa.Rd
open Go.RowKit Go.Proofs.YthbcnakmnbilhaaW.PrintWords Go.ChangeShapes Go.WideShapes
set_option linter.unusedVariables false
def Opens {α : Type} (P : Program) (t : TypeId) (d : Kd α) (ok : α → Prop) : Prop :=
  ∀ (H : Type) (enc : TypeId × Value → H) (w : World) (base : Nat) (spare : Nat → Bool) (held : Bool) (fuel : Nat) (cs : List Value) (x : DataW H × List MemPlace),
    DataW.trod enc P w base spare held fuel t cs = some x → ∃ y, d.K w y cs ∧ ok y
theorem Opens.int {P : Program} {t : TypeId} {k : IntKind} (ht : P.underlying t = some (.int k)) : Opens P t (Kd.int k) (fun n => (Lit.int k n).wf = true) := by
  intro H enc w base spare held fuel cs x h
  obtain ⟨n, rfl, _, hw⟩ := DataW.trod_int ht h
  exact ⟨n, rfl, hw⟩
theorem Opens.bool {P : Program} {t : TypeId} (ht : P.underlying t = some .bool) : Opens P t Kd.bool (fun _ => True) := by
  intro H enc w base spare held fuel cs x h
  obtain ⟨n, rfl, _⟩ := DataW.trod_bool ht h
  exact ⟨n, rfl, trivial⟩
theorem list_of {α : Type} {Q : Nat → α → Prop} : ∀ n : Nat, (∀ i, i < n → ∃ y, Q i y) → ∃ ys : List α, ys.length = n ∧ ∀ i y, ys[i]? = some y → Q i y := by
  intro n
  induction n with
  | zero => exact fun _ => ⟨[], rfl, fun i y h => by simp at h⟩
  | succ n ih =>
    intro h
    obtain ⟨ys, hl, hq⟩ := ih (fun i hi => h i (by omega))
    obtain ⟨y, hy⟩ := h n (by omega)
    refine ⟨ys ++ [y], by simp [hl], fun i z hz => ?_⟩
    rcases Nat.lt_or_ge i ys.length with hi | hi
    · rw [List.getElem?_append_left hi] at hz
      exact hq i z hz
    · rw [List.getElem?_append_right hi] at hz
      have h0 : i - ys.length = 0 := by
        have := (List.getElem?_eq_some_iff.1 hz).1
        simp at this
        omega
      rw [h0] at hz
      simp at hz
      subst hz
      have : i = n := by omega
      rw [this]
      exact hy
theorem Opens.slice {α : Type} {P : Program} {t e : TypeId} (q : Nat) {d : Kd α} {ok : α → Prop} (ht : P.underlying t = some (.slice e)) (hs : P.cellsOf e = d.sz) (he : Opens P e d ok) :
    Opens P t (Kd.slice q d) (fun xs => xs.length ≤ maxLen ∧ ∀ x ∈ xs, ok x) := by
  intro H enc w base spare held fuel cs x h
  rcases DataW.trod_slice ht h with ⟨rfl, _⟩ | ⟨a, len, cap, elems, rest, n, _, rfl, _, _, hl, hm, hlen, hel, _, _⟩
  · exact ⟨[], ⟨none, 0, rfl, Nat.le_refl _, rfl, by simp, fun hp => absurd hp (by simp)⟩, by simp, by simp⟩
  · have each : ∀ i, i < len → ∃ y, ∃ c, w.cells? base (a.add (i * d.sz)) d.sz = some c ∧ d.K w y c ∧ ok y := by
      intro i hi
      have h1 := hel i hi
      rw [List.getElem?_eq_getElem (by omega), Option.bind_eq_some_iff, hs] at h1
      obtain ⟨c, hc, hx⟩ := h1
      obtain ⟨y, hy, ho⟩ := he H enc w base spare held n c _ hx
      exact ⟨y, c, hc, hy, ho⟩
    obtain ⟨ys, hyl, hq⟩ := list_of len each
    have hm' : len ≤ 9223372036854775807 := by unfold maxLen at hm; omega
    refine ⟨ys, ⟨some a, cap, by rw [hyl], by omega, rfl, by omega, fun _ => ⟨a, rfl, fun j p hj => ?_⟩⟩, by omega, fun y hy => ?_⟩
    · obtain ⟨c, hc, hk, _⟩ := hq j p hj
      obtain ⟨_, hcl, hcell⟩ := World.cells?_some hc
      refine ⟨c, hcl, hk, fun i u hu => ?_⟩
      have hi : i < d.sz := by
        have := (List.getElem?_eq_some_iff.1 hu).1
        omega
      rw [← Addr.add_add, hcell i hi, hu]
    · obtain ⟨i, hi⟩ := List.getElem?_of_mem hy
      obtain ⟨c, _, _, ho⟩ := hq i y hi
      exact ho
def OpensAt {α : Type} (P : Program) (fs : List Field) (off : Nat) (d : Kd α) (ok : α → Prop) : Prop :=
  ∀ (H : Type) (enc : TypeId × Value → H) (w : World) (base : Nat) (spare : Nat → Bool) (held : Bool) (n : Nat) (cs : List Value), cs.length = off + d.sz →
    (∀ f ∈ fs, ∃ y, DataW.trod enc P w base spare held n f.type ((cs.drop f.offset).take (P.cellsOf f.type)) = some y) → ∃ y, d.K w y (cs.drop off) ∧ ok y
theorem OpensAt.one {α : Type} {P : Program} {f : Field} {off : Nat} {d : Kd α} {ok : α → Prop} (ho : f.offset = off) (hs : P.cellsOf f.type = d.sz) (h : Opens P f.type d ok) : OpensAt P [f] off d ok := by
  intro H enc w base spare held n cs hl hf
  obtain ⟨x, hx⟩ := hf f (by simp)
  rw [ho, hs, List.take_of_length_le (by simp; omega)] at hx
  exact h _ _ _ _ _ _ _ _ _ hx
theorem OpensAt.cons {α β : Type} {P : Program} {f : Field} {fs : List Field} {off : Nat} {a : Kd α} {b : Kd β} {oka : α → Prop} {okb : β → Prop} (ho : f.offset = off) (hs : P.cellsOf f.type = a.sz) (h : Opens P f.type a oka)
    (hr : OpensAt P fs (off + a.sz) b okb) : OpensAt P (f :: fs) off (Kd.pair a b) (fun x => oka x.1 ∧ okb x.2) := by
  intro H enc w base spare held n cs hl hf
  obtain ⟨x, hx⟩ := hf f (by simp)
  rw [ho, hs] at hx
  obtain ⟨y, hy, oy⟩ := h _ _ _ _ _ _ _ _ _ hx
  have hl' : cs.length = (off + a.sz) + b.sz := by rw [hl]; show off + (a.sz + b.sz) = _; omega
  obtain ⟨z, hz, oz⟩ := hr H enc w base spare held n cs hl' (fun g hg => hf g (by simp [hg]))
  refine ⟨(y, z), ⟨_, _, ?_, hy, hz⟩, oy, oz⟩
  rw [← List.drop_drop]
  exact (List.take_append_drop _ _).symm
theorem Opens.struct {α : Type} {P : Program} {t : TypeId} {fs : List Field} {d : Kd α} {ok : α → Prop} (ht : P.underlying t = some (.struct (List.toArray fs))) (hs : P.cellsOf t = d.sz) (h : OpensAt P fs 0 d ok) : Opens P t d ok := by
  intro H enc w base spare held fuel cs x hx
  obtain ⟨xs, n, _, _, hl, hlen, hf⟩ := DataW.trod_struct ht hx
  obtain ⟨y, hy, oy⟩ := h H enc w base spare held n cs (by omega) (fun f hm => by
    obtain ⟨i, hi⟩ := List.getElem?_of_mem hm
    have hi' : (List.toArray fs)[i]? = some f := by simpa using hi
    have h1 := hf i f hi'
    have hlt : i < xs.length := by
      have := (Array.getElem?_eq_some_iff.1 hi').1
      omega
    rw [List.getElem?_eq_getElem hlt] at h1
    exact ⟨_, h1⟩)
  exact ⟨y, by simpa using hy, oy⟩
theorem Opens.iso {α β : Type} {P : Program} {t : TypeId} {d : Kd α} {ok : α → Prop} (f : β → α) (g : α → β) (hg : ∀ x, f (g x) = x) (h : Opens P t d ok) : Opens P t (Kd.iso d f) (fun y => ok (f y)) := by
  intro H enc w base spare held fuel cs x hx
  obtain ⟨y, hy, o⟩ := h H enc w base spare held fuel cs x hx
  refine ⟨g y, ?_, ?_⟩
  · show d.K w (f (g y)) cs
    rw [hg]
    exact hy
  · show ok (f (g y))
    rw [hg]
    exact o
theorem Opens.at_slice {α : Type} {P : Program} {t : TypeId} {q : Nat} {d : Kd α} {ok : List α → Prop} (h : Opens P t (Kd.slice q d) ok) {H : Type} {enc : TypeId × Value → H} {w : World} {base : Nat} {spare : Nat → Bool} {held : Bool} {v : Value} {x : DataW H} {ps : List MemPlace}
    {e : TypeId} {r : Reach} {b0 : Nat} (hu : P.underlying t = some (.slice e)) (hv : Value.okWide P w r b0 t v) (hx : DataW.Trod enc P w base spare held t v x ps) : ∃ xs A c, v = .slice A xs.length c ∧ xs.length ≤ c ∧ d.C w A xs.length xs ∧ ok xs := by
  obtain ⟨a, len, cap, rfl⟩ := okWide_slice hu hv
  obtain ⟨fuel, hf⟩ := hx
  obtain ⟨xs, ⟨A, c, hcs, hl, hC⟩, o⟩ := h _ _ _ _ _ _ _ _ _ hf
  refine ⟨xs, A, c, ?_, hl, hC, o⟩
  simpa [Value.cells] using hcs
end Go.Proofs.Ythbcnakmnbilhaa.Rd
