/- The program's Locked answers what the reference's does and leaves its arguments as they were: the printed law's function is true for all memories, rooms and numbers. -/
import Derived.Test.YtfaoipojijhlbaaPFnExactLockedx7
import Derived.Test.YtfaoipojijhlbaaLp
namespace Go.Proofs.Ytfaoipojijhlbaa.Pure
open Go.RowKit Go.Proofs.Ytfaoipojijhlbaa.PFnExactLocked Go.Proofs.YtfaoipojijhlbaaW.PrintWords Go.Proofs.YtfaoipojijhlbaaW.PrintLast Go.Proofs.Ytfaoipojijhlbaa.Lp
set_option linter.unusedVariables false
set_option linter.unusedSimpArgs false

theorem toIntS_ev (l : List Int) (h : l.length ≤ 35184372088832) : Ev (fun k => laws_toIntS.f k l) l := by
  have key := count_up (L := fun j k => laws_toIntS.l0 k l (l.take j ++ List.replicate (l.length - j) 0) (j : Int)) (R := fun _ => l) (n := l.length)
    (Ev.one fun k => by simp [laws_toIntS.l0])
    (fun j hj ih => Ev.step (fun k => by
      simp only [laws_toIntS.l0]
      rw [if_pos (by omega), if_pos (by omega), if_pos (by simp; omega), wrapS hj (by omega), Int.toNat_natCast, fill_set l 0 j hj _ (rd_get hj)]) ih)
  refine Ev.congr (fun k => ?_) (key 0 (Nat.zero_le _))
  unfold laws_toIntS.f
  rw [if_pos (by omega), if_pos (by simpa using h)]
  simp

theorem eqIntS_ev (a b : List Int) (h : a.length ≤ 9223372036854775807) : Ev (fun k => laws_eqIntS.f k a b) (decide (a = b)) := by
  by_cases hl : a.length = b.length
  · have key := count_up (L := fun j k => laws_eqIntS.l0 k a b (j : Int)) (R := fun j => agree a b j) (n := a.length)
      (Ev.one fun k => by simp [laws_eqIntS.l0, agree_end hl])
      (fun j hj ih => by
        by_cases e : a[j] = b[j]
        · exact Ev.step (fun k => by
            simp only [laws_eqIntS.l0]
            rw [if_pos (by omega), if_pos (by omega), if_pos (by omega), if_pos (by rw [rd_get hj, rd_get (by omega), e]), wrapS hj (by omega)]) (by rw [agree_step hj (by omega) e]; exact ih)
        · exact Ev.one fun k => by
            simp only [laws_eqIntS.l0]
            rw [if_pos (by omega), if_pos (by omega), if_pos (by omega), if_neg (by rw [rd_get hj, rd_get (by omega)]; exact e), agree_no hj (by omega) e])
    refine Ev.congr (fun k => ?_) (key 0 (Nat.zero_le _))
    unfold laws_eqIntS.f
    rw [if_pos (by omega)]
    rfl
  · refine Ev.all fun k => ?_
    unfold laws_eqIntS.f
    rw [if_neg (by omega), decide_eq_false (fun e => hl (by rw [e]))]
theorem eqIntS_self (a : List Int) (h : a.length ≤ 9223372036854775807) : Ev (fun k => laws_eqIntS.f k a a) true := by
  have := eqIntS_ev a a h
  simpa using this

def wlWrite (x : S151) : Nat := x.f1.length
def wiWrite (x : S119) : Nat := x.f1.length
def cvWrite (x : S151) : S119 := ⟨x.f0, x.f1⟩
theorem w_cvWrite (x : S151) : wiWrite (cvWrite x) = wlWrite x := rfl

def cvWriteS (xs : (List S151)) : (List S119) := xs.map cvWrite
def wlWriteS (xs : (List S151)) : Nat := (xs.length + total wlWrite xs)
def wiWriteS (xs : (List S119)) : Nat := (xs.length + total wiWrite xs)
theorem w_cvWriteS (xs : (List S151)) : wiWriteS (cvWriteS xs) = wlWriteS xs := by
  simp only [wiWriteS, wlWriteS, cvWriteS, List.length_map]
  rw [total_map wlWrite wiWrite cvWrite w_cvWrite]

theorem szIntS_ev (l : (List Int)) (a : Int) (h0 : 0 ≤ a) (hB : a ≤ 1048576) (hl : l.length ≤ 9223372036854775807) : Ev (fun k => laws_szIntS.f l a) (left? l.length a) := by
  refine Ev.all fun k => ?_
  unfold laws_szIntS.f left?
  rw [wrap_in (by omega) (by omega)]
  by_cases h : (l.length : Int) ≤ a
  · rw [if_neg (by omega), if_pos h]
  · rw [if_pos (by omega), if_neg h]

theorem szWrite_ev (a_0 : Int) (a_1 : (List Int)) (a : Int) (h0 : 0 ≤ a) (hB : a ≤ 1048576) (hfin : a_1.length ≤ 9223372036854775807) : Ev (fun k => laws_szWrite.f a_0 a_1 a) (left? (a_1.length) a) := by
  simp only [laws_szWrite.f]
  refine Ev.bind (szIntS_ev a_1 a (by omega) (by omega) hfin) ?_
  by_cases c0 : ((a_1.length : Nat) : Int) ≤ a
  case neg => rw [left?_no c0]; (try rw [left?_no (by omega)]); exact Ev.ite_pos (by omega) (Ev.now _)
  rw [left?_yes c0]
  refine Ev.ite_neg (by omega) ?_
  (try rw [left?_yes (by omega)])
  exact Ev.val (by omega) (Ev.now _)

theorem szWriteS_ev (xs : (List S151)) (a : Int) (h0 : 0 ≤ a) (hB : a ≤ 1048576) (hfin : (xs.length ≤ 9223372036854775807 ∧ ∀ y ∈ xs, y.f1.length ≤ 9223372036854775807)) : Ev (fun k => laws_szWriteS.f k xs a) (left? (xs.length + total wlWrite xs) a) := by
  obtain ⟨hl, hfin⟩ := hfin
  have rd_e : ∀ (j : Nat) (hj : j < xs.length), rd_T151 xs (j : Int) = xs[j] := fun j hj => by simp [rd_T151, List.getD_eq_getElem?_getD, hj]
  by_cases h : (xs.length : Int) ≤ a
  · have key := sz_loop (L := fun j a k => laws_szWriteS.l0 k xs a (j : Int)) xs wlWrite 1048576 (fun a => Ev.one fun k => by simp only [laws_szWriteS.l0]; rw [if_neg (by omega)])
      (fun j hj a hB hw r ih => by
        have h0 : 0 ≤ a := by omega
        have hw' : ((xs[j].f1.length : Nat) : Int) ≤ a := hw
        refine Ev.step (fun k => by simp only [laws_szWriteS.l0]; rw [if_pos (by omega), if_pos (by omega), rd_e j hj]) (Ev.bind (szWrite_ev (xs[j].f0) (xs[j].f1) a h0 hB (hfin xs[j] (List.getElem_mem hj))) ?_)
        rw [left?_yes hw', wrapS hj hl]
        exact Ev.ite_neg (by omega) ih)
      (fun j hj a h0 hB hw => by
        have hw' : ¬ ((xs[j].f1.length : Nat) : Int) ≤ a := by have : a < (wlWrite xs[j] : Int) := hw; intro c; exact absurd (show (wlWrite xs[j] : Int) ≤ a from c) (by omega)
        refine Ev.step (fun k => by simp only [laws_szWriteS.l0]; rw [if_pos (by omega), if_pos (by omega), rd_e j hj]) (Ev.bind (szWrite_ev (xs[j].f0) (xs[j].f1) a h0 hB (hfin xs[j] (List.getElem_mem hj))) ?_)
        rw [left?_no hw']
        exact Ev.ite_pos (by omega) (Ev.now _)) (a - (xs.length : Int)) (by omega) (by omega)
    rw [left?_add h] at key
    refine Ev.congr (fun k => ?_) key
    unfold laws_szWriteS.f
    rw [wrap_in (by omega) (by omega), if_neg (by omega)]
    rfl
  · refine Ev.all fun k => ?_
    unfold laws_szWriteS.f
    rw [wrap_in (by omega) (by omega), if_pos (by omega), left?_no (by omega)]

theorem szWriteSS_ev (xs : (List (List S151))) (a : Int) (h0 : 0 ≤ a) (hB : a ≤ 1048576) (hfin : (xs.length ≤ 9223372036854775807 ∧ ∀ y ∈ xs, (y.length ≤ 9223372036854775807 ∧ ∀ y' ∈ y, y'.f1.length ≤ 9223372036854775807))) : Ev (fun k => laws_szWriteSS.f k xs a) (left? (xs.length + total wlWriteS xs) a) := by
  obtain ⟨hl, hfin⟩ := hfin
  have rd_e : ∀ (j : Nat) (hj : j < xs.length), rd_L3 xs (j : Int) = xs[j] := fun j hj => by simp [rd_L3, List.getD_eq_getElem?_getD, hj]
  by_cases h : (xs.length : Int) ≤ a
  · have key := sz_loop (L := fun j a k => laws_szWriteSS.l0 k xs a (j : Int)) xs wlWriteS 1048576 (fun a => Ev.one fun k => by simp only [laws_szWriteSS.l0]; rw [if_neg (by omega)])
      (fun j hj a hB hw r ih => by
        have h0 : 0 ≤ a := by omega
        have hw' : (((xs[j].length + total wlWrite xs[j]) : Nat) : Int) ≤ a := hw
        refine Ev.step (fun k => by simp only [laws_szWriteSS.l0]; rw [if_pos (by omega), if_pos (by omega), rd_e j hj]) (Ev.bind (szWriteS_ev xs[j] a h0 hB (hfin xs[j] (List.getElem_mem hj))) ?_)
        rw [left?_yes hw', wrapS hj hl]
        exact Ev.ite_neg (by omega) ih)
      (fun j hj a h0 hB hw => by
        have hw' : ¬ (((xs[j].length + total wlWrite xs[j]) : Nat) : Int) ≤ a := by have : a < (wlWriteS xs[j] : Int) := hw; intro c; exact absurd (show (wlWriteS xs[j] : Int) ≤ a from c) (by omega)
        refine Ev.step (fun k => by simp only [laws_szWriteSS.l0]; rw [if_pos (by omega), if_pos (by omega), rd_e j hj]) (Ev.bind (szWriteS_ev xs[j] a h0 hB (hfin xs[j] (List.getElem_mem hj))) ?_)
        rw [left?_no hw']
        exact Ev.ite_pos (by omega) (Ev.now _)) (a - (xs.length : Int)) (by omega) (by omega)
    rw [left?_add h] at key
    refine Ev.congr (fun k => ?_) key
    unfold laws_szWriteSS.f
    rw [wrap_in (by omega) (by omega), if_neg (by omega)]
    rfl
  · refine Ev.all fun k => ?_
    unfold laws_szWriteSS.f
    rw [wrap_in (by omega) (by omega), if_pos (by omega), left?_no (by omega)]

theorem szMemory_ev (a_0 : (List (List S151))) (a : Int) (h0 : 0 ≤ a) (hB : a ≤ 1048576) (hfin : (a_0.length ≤ 9223372036854775807 ∧ ∀ y ∈ a_0, (y.length ≤ 9223372036854775807 ∧ ∀ y' ∈ y, y'.f1.length ≤ 9223372036854775807))) : Ev (fun k => laws_szMemory.f k a_0 a) (left? ((a_0.length + total wlWriteS a_0)) a) := by
  simp only [laws_szMemory.f]
  refine Ev.bind (szWriteSS_ev a_0 a (by omega) (by omega) hfin) ?_
  by_cases c0 : (((a_0.length + total wlWriteS a_0) : Nat) : Int) ≤ a
  case neg => rw [left?_no c0]; (try rw [left?_no (by omega)]); exact Ev.ite_pos (by omega) (Ev.now _)
  rw [left?_yes c0]
  refine Ev.ite_neg (by omega) ?_
  (try rw [left?_yes (by omega)])
  exact Ev.val (by omega) (Ev.now _)

theorem toWrite_ev (a_0 : Int) (a_1 : (List Int)) (h : a_1.length ≤ 1048576) : Ev (fun k => laws_toWrite.f k a_0 a_1) (a_0, a_1) := by
  simp only [laws_toWrite.f]
  refine Ev.bind (toIntS_ev a_1 (by omega)) ?_
  try simp only []
  exact Ev.now _

theorem toWriteS_ev (xs : (List S151)) (h : (xs.length + total wlWrite xs) ≤ 1048576) : Ev (fun k => laws_toWriteS.f k xs) (xs.map cvWrite) := by
  have rd_e : ∀ (j : Nat) (hj : j < xs.length), rd_T151 xs (j : Int) = xs[j] := fun j hj => by simp [rd_T151, List.getD_eq_getElem?_getD, hj]
  have key := to_loop (L := fun j ys k => laws_toWriteS.l0 k xs ys (j : Int)) xs cvWrite z119 (fun ys _ => Ev.one fun k => by simp only [laws_toWriteS.l0]; rw [if_neg (by omega)])
    (fun j hj ys hy r ih => by
      refine Ev.step (fun k => by simp only [laws_toWriteS.l0]; rw [if_pos (by omega), if_pos (by omega), rd_e j hj]) (Ev.bind (toWrite_ev (xs[j].f0) (xs[j].f1) (by have := total_mem wlWrite (List.getElem_mem hj); have h2 : xs[j].f1.length = wlWrite xs[j] := rfl; omega)) ?_)
      refine Ev.ite_pos (by omega) ?_
      rw [wrapS hj (by omega), Int.toNat_natCast]
      exact ih)
  refine Ev.congr (fun k => ?_) key
  unfold laws_toWriteS.f
  rw [if_pos (by omega), if_pos (by simp; omega)]
  simp only [Int.toNat_natCast]
  rfl

theorem toWriteSS_ev (xs : (List (List S151))) (h : (xs.length + total wlWriteS xs) ≤ 1048576) : Ev (fun k => laws_toWriteSS.f k xs) (xs.map cvWriteS) := by
  have rd_e : ∀ (j : Nat) (hj : j < xs.length), rd_L3 xs (j : Int) = xs[j] := fun j hj => by simp [rd_L3, List.getD_eq_getElem?_getD, hj]
  have key := to_loop (L := fun j ys k => laws_toWriteSS.l0 k xs ys (j : Int)) xs cvWriteS [] (fun ys _ => Ev.one fun k => by simp only [laws_toWriteSS.l0]; rw [if_neg (by omega)])
    (fun j hj ys hy r ih => by
      refine Ev.step (fun k => by simp only [laws_toWriteSS.l0]; rw [if_pos (by omega), if_pos (by omega), rd_e j hj]) (Ev.bind (toWriteS_ev xs[j] (by have := total_mem wlWriteS (List.getElem_mem hj); have h2 : (xs[j].length + total wlWrite xs[j]) = wlWriteS xs[j] := rfl; omega)) ?_)
      refine Ev.ite_pos (by omega) ?_
      rw [wrapS hj (by omega), Int.toNat_natCast]
      exact ih)
  refine Ev.congr (fun k => ?_) key
  unfold laws_toWriteSS.f
  rw [if_pos (by omega), if_pos (by simp; omega)]
  simp only [Int.toNat_natCast]
  rfl

theorem toMemory_ev (a_0 : (List (List S151))) (h : (a_0.length + total wlWriteS a_0) ≤ 1048576) : Ev (fun k => laws_toMemory.f k a_0) (a_0.map cvWriteS) := by
  simp only [laws_toMemory.f]
  refine Ev.bind (toWriteSS_ev a_0 h) ?_
  try simp only []
  exact Ev.now _

theorem eqWrite_self (a_0 : Int) (a_1 : (List Int)) (h : a_1.length ≤ 1048576) : Ev (fun k => laws_eqWrite.f k a_0 a_1 a_0 a_1) true := by
  simp only [laws_eqWrite.f, eq_self, if_true, bne_self_eq_false, Bool.false_eq_true, if_false]
  refine Ev.bind (eqIntS_self a_1 (by omega)) ?_
  try simp only [eq_self, if_true, bne_self_eq_false, Bool.false_eq_true, if_false]
  exact Ev.now _

theorem eqWriteS_self (xs : (List S119)) (h : (xs.length + total wiWrite xs) ≤ 1048576) : Ev (fun k => laws_eqWriteS.f k xs xs) true := by
  have rd_e : ∀ (j : Nat) (hj : j < xs.length), rd_T119 xs (j : Int) = xs[j] := fun j hj => by simp [rd_T119, List.getD_eq_getElem?_getD, hj]
  have key := yes_loop (L := fun j k => laws_eqWriteS.l0 k xs xs (j : Int)) xs.length true (Ev.one fun k => by simp only [laws_eqWriteS.l0]; rw [if_neg (by omega)])
    (fun j hj ih => by
      refine Ev.step (fun k => by simp only [laws_eqWriteS.l0]; rw [if_pos (by omega), if_pos (by omega), if_pos (by omega), rd_e j hj]) (Ev.bind (eqWrite_self (xs[j].f0) (xs[j].f1) (by have := total_mem wiWrite (List.getElem_mem hj); have h2 : xs[j].f1.length = wiWrite xs[j] := rfl; omega)) ?_)
      refine Ev.ite_pos rfl ?_
      rw [wrapS hj (by omega)]
      exact ih)
  refine Ev.congr (fun k => ?_) key
  unfold laws_eqWriteS.f
  rw [if_pos rfl]
  rfl

theorem eqWriteSS_self (xs : (List (List S119))) (h : (xs.length + total wiWriteS xs) ≤ 1048576) : Ev (fun k => laws_eqWriteSS.f k xs xs) true := by
  have rd_e : ∀ (j : Nat) (hj : j < xs.length), rd_L5 xs (j : Int) = xs[j] := fun j hj => by simp [rd_L5, List.getD_eq_getElem?_getD, hj]
  have key := yes_loop (L := fun j k => laws_eqWriteSS.l0 k xs xs (j : Int)) xs.length true (Ev.one fun k => by simp only [laws_eqWriteSS.l0]; rw [if_neg (by omega)])
    (fun j hj ih => by
      refine Ev.step (fun k => by simp only [laws_eqWriteSS.l0]; rw [if_pos (by omega), if_pos (by omega), if_pos (by omega), rd_e j hj]) (Ev.bind (eqWriteS_self xs[j] (by have := total_mem wiWriteS (List.getElem_mem hj); have h2 : (xs[j].length + total wiWrite xs[j]) = wiWriteS xs[j] := rfl; omega)) ?_)
      refine Ev.ite_pos rfl ?_
      rw [wrapS hj (by omega)]
      exact ih)
  refine Ev.congr (fun k => ?_) key
  unfold laws_eqWriteSS.f
  rw [if_pos rfl]
  rfl

theorem eqMemory_self (a_0 : (List (List S119))) (h : (a_0.length + total wiWriteS a_0) ≤ 1048576) : Ev (fun k => laws_eqMemory.f k a_0 a_0) true := by
  simp only [laws_eqMemory.f, eq_self, if_true, bne_self_eq_false, Bool.false_eq_true, if_false]
  refine Ev.bind (eqWriteSS_self a_0 h) ?_
  try simp only [eq_self, if_true, bne_self_eq_false, Bool.false_eq_true, if_false]
  exact Ev.now _

/-- lo .. hi. -/
def inn (a lo hi : Int) : Bool := decide (lo ≤ a ∧ a ≤ hi)

theorem spec_l1In_eq (a lo hi : Int) : spec_l1In.f a lo hi = some (inn a lo hi) := by
  unfold spec_l1In.f inn
  by_cases h : a ≥ lo
  · rw [if_pos h]; congr 1; simp; omega
  · rw [if_neg h, decide_eq_false (by omega)]

theorem impl_within_eq (a lo hi : Int) : impl_within.f a lo hi = some (inn a lo hi) := by
  unfold impl_within.f inn
  by_cases h : a ≥ lo
  · rw [if_pos h]; congr 1; simp; omega
  · rw [if_neg h, decide_eq_false (by omega)]

/-- A right view; a right memory. -/
def viewIn (m : List (List S119)) (v : List Int) (i : Nat) : Bool := inn (v.getD i 0) 0 (((m.getD i []).length : Int) - 1)
def viewOk (m : List (List S119)) (v : List Int) : Bool := decide (v.length = m.length) && (List.range v.length).all (viewIn m v)
theorem rd_cell (m : List (List S119)) (j : Nat) : rd_L5 m (j : Int) = m.getD j [] := by simp [rd_L5]
theorem rd_int (v : List Int) (j : Nat) : rd v (j : Int) = v.getD j 0 := by simp [rd]
/-- Lengths that are no trouble. -/
def Small (m : List (List S119)) : Prop := m.length ≤ 1048576 ∧ ∀ c ∈ m, c.length ≤ 1048576 ∧ ∀ w ∈ c, w.f1.length ≤ 1048576
theorem Small.at {m : List (List S119)} (h : Small m) (j : Nat) : (m.getD j []).length ≤ 1048576 := by
  rw [List.getD_eq_getElem?_getD]
  cases e : m[j]? with
  | none => simp
  | some c => exact (h.2 c (List.mem_of_getElem? e)).1
theorem range_get {n j : Nat} (h : j < (List.range n).length) : (List.range n)[j] = j := by simp

theorem spec_ViewOk_ev (m : List (List S119)) (v : List Int) (hm : Small m) (hv : v.length ≤ 1048576) : Ev (fun k => spec_ViewOk.f k m v) (viewOk m v) := by
  by_cases hl : v.length = m.length
  · have key := all_loop (L := fun j k => spec_ViewOk.l0 k v (j : Int) m) (List.range v.length) (viewIn m v) (b := true) (Ev.one fun k => by
        simp only [spec_ViewOk.l0]
        rw [if_neg (by simp)])
      (fun j hj hp r ih => by
        rw [List.length_range] at hj
        rw [range_get] at hp
        have h1 := hm.at j
        refine Ev.step (fun k => ?_) ih
        simp only [spec_ViewOk.l0]
        rw [if_pos (by omega), if_pos (by omega), if_pos (by omega), rd_int, rd_cell, wrap_in (by omega) (by omega), spec_l1In_eq, Option.bind_some, if_pos (show inn (v.getD j 0) 0 (((m.getD j []).length : Int) - 1) = true from hp), wrapS hj (by omega)])
      (fun j hj hp => by
        rw [List.length_range] at hj
        rw [range_get] at hp
        have h1 := hm.at j
        refine Ev.one fun k => ?_
        simp only [spec_ViewOk.l0]
        rw [if_pos (by omega), if_pos (by omega), if_pos (by omega), rd_int, rd_cell, wrap_in (by omega) (by omega), spec_l1In_eq, Option.bind_some, if_neg (show ¬ inn (v.getD j 0) 0 (((m.getD j []).length : Int) - 1) = true from fun e => by have e' : viewIn m v j = true := e; rw [hp] at e'; cases e')])
    rw [Bool.and_true] at key
    refine Ev.congr (fun k => ?_) (Ev.val (by rw [viewOk, decide_eq_true hl, Bool.true_and]) key)
    unfold spec_ViewOk.f
    rw [if_pos (by omega)]
    rfl
  · refine Ev.all fun k => ?_
    unfold spec_ViewOk.f
    rw [if_neg (by omega), viewOk, decide_eq_false hl, Bool.false_and]

theorem impl_ViewOk_ev (m : List (List S119)) (v : List Int) (hm : Small m) (hv : v.length ≤ 1048576) : Ev (fun k => impl_ViewOk.f k m v) (viewOk m v) := by
  by_cases hl : v.length = m.length
  · have key := all_loop (L := fun j k => impl_ViewOk.l0 k v (v.length : Int) (j : Int) m) (List.range v.length) (viewIn m v) (b := true) (Ev.one fun k => by
        simp only [impl_ViewOk.l0]
        rw [if_neg (by simp)])
      (fun j hj hp r ih => by
        rw [List.length_range] at hj
        rw [range_get] at hp
        have h1 := hm.at j
        refine Ev.step (fun k => ?_) ih
        simp only [impl_ViewOk.l0]
        rw [if_pos (by omega), if_pos (by omega), if_pos (by omega), if_pos (by omega), rd_int, rd_cell, wrap_in (by omega) (by omega), impl_within_eq, Option.bind_some, if_pos (show inn (v.getD j 0) 0 (((m.getD j []).length : Int) - 1) = true from hp), wrapS hj (by omega)])
      (fun j hj hp => by
        rw [List.length_range] at hj
        rw [range_get] at hp
        have h1 := hm.at j
        refine Ev.one fun k => ?_
        simp only [impl_ViewOk.l0]
        rw [if_pos (by omega), if_pos (by omega), if_pos (by omega), if_pos (by omega), rd_int, rd_cell, wrap_in (by omega) (by omega), impl_within_eq, Option.bind_some, if_neg (show ¬ inn (v.getD j 0) 0 (((m.getD j []).length : Int) - 1) = true from fun e => by have e' : viewIn m v j = true := e; rw [hp] at e'; cases e')])
    rw [Bool.and_true] at key
    refine Ev.congr (fun k => ?_) (Ev.val (by rw [viewOk, decide_eq_true hl, Bool.true_and]) key)
    unfold impl_ViewOk.f
    rw [if_pos (by omega)]
    rfl
  · refine Ev.all fun k => ?_
    unfold impl_ViewOk.f
    rw [if_neg (by omega), viewOk, decide_eq_false hl, Bool.false_and]

theorem small_of (xs : List (List S151)) (h : xs.length + total wlWriteS xs ≤ 1048576) : Small (xs.map cvWriteS) := by
  refine ⟨by simp; omega, fun c hc => ?_⟩
  obtain ⟨y, hy, rfl⟩ := List.mem_map.1 hc
  have h1 := total_mem wlWriteS hy
  have h2 : wlWriteS y = y.length + total wlWrite y := rfl
  refine ⟨by simp [cvWriteS]; omega, fun w hw => ?_⟩
  obtain ⟨z, hz, rfl⟩ := List.mem_map.1 hw
  have h3 := total_mem wlWrite hz
  have h4 : wlWrite z = z.f1.length := rfl
  show z.f1.length ≤ 1048576
  omega
theorem eq_small (xs : List (List S151)) (h : xs.length + total wlWriteS xs ≤ 1048576) : (xs.map cvWriteS).length + total wiWriteS (xs.map cvWriteS) ≤ 1048576 := by
  rw [List.length_map, total_map wlWriteS wiWriteS cvWriteS w_cvWriteS]
  exact h

/-- Right memory. -/
def cellIn (m : List (List S119)) (c : List S119) : Bool := inn (c.length : Int) 1 4000 && c.all (fun w => viewOk m w.f1)
def memOk (m : List (List S119)) : Bool := m.all (cellIn m) && decide (m.length = 24)
theorem rd_write (l : List S119) (j : Nat) (h : j < l.length) : rd_T119 l (j : Int) = l[j] := by simp [rd_T119, List.getD_eq_getElem?_getD, h]
theorem rd_cell' (m : List (List S119)) (j : Nat) (h : j < m.length) : rd_L5 m (j : Int) = m[j] := by simp [rd_L5, List.getD_eq_getElem?_getD, h]

theorem spec_MemoryOk_ev (m : List (List S119)) (hm : Small m) : Ev (fun k => spec_MemoryOk.f k m) (memOk m) := by
  have hl := hm.1
  by_cases h24 : m.length = 24
  case neg =>
    refine Ev.all fun k => ?_
    unfold spec_MemoryOk.f
    rw [if_neg (by omega), memOk, decide_eq_false h24, Bool.and_false]
  simp only [spec_MemoryOk.f]
  refine Ev.ite_pos (by omega) ?_
  refine all_loop (L := fun j k => spec_MemoryOk.l0 k (j : Int) m) m (cellIn m) ?_ (fun j hj hp r ih => ?_) (fun j hj hp => ?_)
  · refine Ev.one fun k => ?_
    simp only [spec_MemoryOk.l0]
    rw [if_neg (by omega), decide_eq_true h24]
  · have hc := hm.2 m[j] (List.getElem_mem hj)
    have h1 : inn (m[j].length : Int) 1 4000 = true := by unfold cellIn at hp; rw [Bool.and_eq_true] at hp; exact hp.1
    have h2 : m[j].all (fun w => viewOk m w.f1) = true := by unfold cellIn at hp; rw [Bool.and_eq_true] at hp; exact hp.2
    refine Ev.step (fun k => by simp only [spec_MemoryOk.l0, spec_l1In_eq, Option.bind_some]; rw [if_pos (by omega), if_pos (by omega), if_pos (by omega), rd_cell' m j hj, if_pos h1]) ?_
    refine yes_all (L := fun i k => spec_MemoryOk.l1 k (j : Int) (i : Int) m) m[j] (fun w => viewOk m w.f1) h2 ?_ (fun i hi hq ih' => ?_)
    · exact Ev.step (fun k => by simp only [spec_MemoryOk.l1]; rw [if_pos (by omega), if_pos (by omega), rd_cell' m j hj, if_neg (by omega), wrapS hj (by omega)]) ih
    · refine Ev.step (fun k => by simp only [spec_MemoryOk.l1]; rw [if_pos (by omega), if_pos (by omega), rd_cell' m j hj, if_pos (by omega), if_pos (by omega), rd_write _ i hi]) (Ev.bind (spec_ViewOk_ev m _ hm (hc.2 _ (List.getElem_mem hi))) ?_)
      refine Ev.ite_pos hq ?_
      rw [wrapS hi (by omega)]
      exact ih'
  · have hc := hm.2 m[j] (List.getElem_mem hj)
    by_cases h1 : inn (m[j].length : Int) 1 4000 = true
    · have h2 : m[j].all (fun w => viewOk m w.f1) = false := by unfold cellIn at hp; rwa [h1, Bool.true_and] at hp
      refine Ev.step (fun k => by simp only [spec_MemoryOk.l0, spec_l1In_eq, Option.bind_some]; rw [if_pos (by omega), if_pos (by omega), if_pos (by omega), rd_cell' m j hj, if_pos h1]) ?_
      refine no_all (L := fun i k => spec_MemoryOk.l1 k (j : Int) (i : Int) m) m[j] (fun w => viewOk m w.f1) h2 (fun i hi hq ih' => ?_) (fun i hi hq => ?_)
      · refine Ev.step (fun k => by simp only [spec_MemoryOk.l1]; rw [if_pos (by omega), if_pos (by omega), rd_cell' m j hj, if_pos (by omega), if_pos (by omega), rd_write _ i hi]) (Ev.bind (spec_ViewOk_ev m _ hm (hc.2 _ (List.getElem_mem hi))) ?_)
        refine Ev.ite_pos hq ?_
        rw [wrapS hi (by omega)]
        exact ih'
      · refine Ev.step (fun k => by simp only [spec_MemoryOk.l1]; rw [if_pos (by omega), if_pos (by omega), rd_cell' m j hj, if_pos (by omega), if_pos (by omega), rd_write _ i hi]) (Ev.bind (spec_ViewOk_ev m _ hm (hc.2 _ (List.getElem_mem hi))) ?_)
        exact Ev.ite_neg (by rw [hq]; simp) (Ev.now _)
    · refine Ev.one fun k => ?_
      simp only [spec_MemoryOk.l0, spec_l1In_eq, Option.bind_some]
      rw [if_pos (by omega), if_pos (by omega), if_pos (by omega), rd_cell' m j hj, if_neg h1]

theorem impl_MemoryOk_ev (m : List (List S119)) (hm : Small m) : Ev (fun k => impl_MemoryOk.f k m) (memOk m) := by
  have hl := hm.1
  refine all_loop (L := fun j k => impl_MemoryOk.l0 k m (m.length : Int) (j : Int) m) m (cellIn m) ?_ (fun j hj hp r ih => ?_) (fun j hj hp => ?_)
  · refine Ev.one fun k => ?_
    simp only [impl_MemoryOk.l0]
    rw [if_neg (by omega)]
    congr 1
    rw [Bool.eq_iff_iff]
    simp
    omega
  · have hc := hm.2 m[j] (List.getElem_mem hj)
    have h1 : inn (m[j].length : Int) 1 4000 = true := by unfold cellIn at hp; rw [Bool.and_eq_true] at hp; exact hp.1
    have h2 : m[j].all (fun w => viewOk m w.f1) = true := by unfold cellIn at hp; rw [Bool.and_eq_true] at hp; exact hp.2
    refine Ev.step (fun k => by simp only [impl_MemoryOk.l0, impl_within_eq, Option.bind_some]; rw [if_pos (by omega), if_pos (by omega), if_pos (by omega), rd_cell' m j hj, if_pos h1]) ?_
    refine yes_all (L := fun i k => impl_MemoryOk.l1 k m (m.length : Int) (j : Int) m[j] (m[j].length : Int) (i : Int) m) m[j] (fun w => viewOk m w.f1) h2 ?_ (fun i hi hq ih' => ?_)
    · exact Ev.step (fun k => by simp only [impl_MemoryOk.l1]; rw [if_neg (by omega), wrapS hj (by omega)]) ih
    · refine Ev.step (fun k => by simp only [impl_MemoryOk.l1]; rw [if_pos (by omega), if_pos (by omega), if_pos (by omega), rd_write _ i hi]) (Ev.bind (impl_ViewOk_ev m _ hm (hc.2 _ (List.getElem_mem hi))) ?_)
      refine Ev.ite_pos hq ?_
      rw [wrapS hi (by omega)]
      exact ih'
  · have hc := hm.2 m[j] (List.getElem_mem hj)
    by_cases h1 : inn (m[j].length : Int) 1 4000 = true
    · have h2 : m[j].all (fun w => viewOk m w.f1) = false := by unfold cellIn at hp; rwa [h1, Bool.true_and] at hp
      refine Ev.step (fun k => by simp only [impl_MemoryOk.l0, impl_within_eq, Option.bind_some]; rw [if_pos (by omega), if_pos (by omega), if_pos (by omega), rd_cell' m j hj, if_pos h1]) ?_
      refine no_all (L := fun i k => impl_MemoryOk.l1 k m (m.length : Int) (j : Int) m[j] (m[j].length : Int) (i : Int) m) m[j] (fun w => viewOk m w.f1) h2 (fun i hi hq ih' => ?_) (fun i hi hq => ?_)
      · refine Ev.step (fun k => by simp only [impl_MemoryOk.l1]; rw [if_pos (by omega), if_pos (by omega), if_pos (by omega), rd_write _ i hi]) (Ev.bind (impl_ViewOk_ev m _ hm (hc.2 _ (List.getElem_mem hi))) ?_)
        refine Ev.ite_pos hq ?_
        rw [wrapS hi (by omega)]
        exact ih'
      · refine Ev.step (fun k => by simp only [impl_MemoryOk.l1]; rw [if_pos (by omega), if_pos (by omega), if_pos (by omega), rd_write _ i hi]) (Ev.bind (impl_ViewOk_ev m _ hm (hc.2 _ (List.getElem_mem hi))) ?_)
        exact Ev.ite_neg (by rw [hq]; simp) (Ev.now _)
    · refine Ev.one fun k => ?_
      simp only [impl_MemoryOk.l0, impl_within_eq, Option.bind_some]
      rw [if_pos (by omega), if_pos (by omega), if_pos (by omega), rd_cell' m j hj, if_neg h1]

def capOk (c : Int) : Bool := inn c 1 4
/-- How many cells these have together. -/
def bs : List Int → Int
  | [] => 0
  | c :: l => c + 4 + bs l
theorem bs_append : ∀ a b : List Int, bs (a ++ b) = bs a + bs b
  | [], b => by simp [bs]
  | c :: a, b => by simp only [List.cons_append, bs, bs_append a b]; omega
theorem bs_succ {l : List Int} {j : Nat} (h : j < l.length) : bs (l.take (j + 1)) = bs (l.take j) + (l[j] + 4) := by
  rw [List.take_succ_eq_append_getElem h, bs_append]
  simp [bs]
theorem bs_bound : ∀ l : List Int, l.all capOk = true → 5 * (l.length : Int) ≤ bs l ∧ bs l ≤ 8 * (l.length : Int)
  | [], _ => by simp [bs]
  | c :: l, h => by
    rw [List.all_cons, Bool.and_eq_true] at h
    obtain ⟨h1, h2⟩ := h
    have := bs_bound l h2
    have h3 : 1 ≤ c ∧ c ≤ 4 := by simpa [capOk, inn] using h1
    simp only [bs, List.length_cons]
    omega
theorem all_take {l : List Int} (h : l.all capOk = true) (j : Nat) : (l.take j).all capOk = true := by
  rw [List.all_eq_true] at h ⊢
  exact fun x hx => h x (List.mem_of_mem_take hx)
theorem bs_take_bound {l : List Int} (h : l.all capOk = true) {j : Nat} (hj : j ≤ l.length) : 5 * (j : Int) ≤ bs (l.take j) ∧ bs (l.take j) ≤ 8 * (j : Int) := by
  have := bs_bound (l.take j) (all_take h j)
  rw [List.length_take, Nat.min_eq_left hj] at this
  exact this
theorem capOk_get {l : List Int} (h : l.all capOk = true) {j : Nat} (hj : j < l.length) : 1 ≤ l[j] ∧ l[j] ≤ 4 := by
  have := List.all_eq_true.1 h _ (List.getElem_mem hj)
  simpa [capOk, inn] using this
theorem bs_all (l : List Int) : bs (l.take l.length) = bs l := by rw [List.take_length]
/-- Whether channels of these rooms lie in memory. -/
def laid (l : List Int) : Bool := l.all capOk && decide (bs l ≤ 24)
/-- The first cell of a channel; -1: none. -/
def baseOf (l : List Int) (n : Int) : Int := if laid l = true ∧ 0 ≤ n ∧ n < (l.length : Int) then bs (l.take n.toNat) else -1

theorem impl_capsOk_ev (l : List Int) (h : l.length ≤ 9223372036854775807) : Ev (fun k => impl_capsOk.f k l) (l.all capOk) := by
  have key := count_up (L := fun j k => impl_capsOk.l0 k l (l.length : Int) (j : Int)) (R := fun j => allFrom capOk l j) (n := l.length)
    (Ev.one fun k => by simp [impl_capsOk.l0, allFrom_end])
    (fun j hj ih => by
      by_cases e : capOk l[j] = true
      · exact Ev.step (fun k => by
          simp only [impl_capsOk.l0]
          rw [if_pos (by omega), if_pos (by omega), if_pos (by omega), rd_get hj, impl_within_eq, Option.bind_some, show inn l[j] 1 4 = true from e, if_pos rfl, wrapS hj (by omega)]) (by rw [allFrom_step hj, e, Bool.true_and]; exact ih)
      · refine Ev.one fun k => ?_
        simp only [impl_capsOk.l0]
        rw [if_pos (by omega), if_pos (by omega), if_pos (by omega), rd_get hj, impl_within_eq, Option.bind_some, if_neg (show ¬ inn l[j] 1 4 = true from e), allFrom_step hj]
        simp [e])
  exact key 0 (Nat.zero_le _)

theorem impl_Base_ev (l : List Int) (h : l.length ≤ 1048576) (n : Int) : Ev (fun k => impl_Base.f k l n) (baseOf l n) := by
  simp only [impl_Base.f, impl_within_eq, Option.bind_some]
  rw [wrap_in (by omega) (by omega)]
  by_cases hn : 0 ≤ n ∧ n < (l.length : Int)
  · have hi : inn n 0 ((l.length : Int) - 1) = true := by simp [inn]; omega
    simp only [hi, if_true]
    refine Ev.bind (impl_capsOk_ev l (by omega)) ?_
    by_cases ha : l.all capOk = true
    · obtain ⟨m, rfl⟩ := Int.eq_ofNat_of_zero_le hn.1
      rw [ha, Bool.not_true]
      refine Ev.step (f := fun k => impl_Base.l0 k (m : Int) 0 0 l (l.length : Int) 0) (fun k => by rw [impl_Base.j0, if_neg (by simp)]) ?_
      have key := count_up (L := fun j k => impl_Base.l0 k (m : Int) (bs (l.take (min j m))) (bs (l.take j)) l (l.length : Int) (j : Int)) (R := fun _ => baseOf l (m : Int)) (n := l.length)
        (Ev.one fun k => by
          simp only [impl_Base.l0]
          rw [if_neg (by omega), bs_all, baseOf, Int.toNat_natCast, Nat.min_eq_right (by omega)]
          by_cases h24 : bs l ≤ 24
          · rw [if_neg (by omega), if_pos ⟨by simp [laid, ha, h24], hn⟩]
          · rw [if_pos (by omega), if_neg (fun c => by have := c.1; simp [laid, h24] at this)])
        (fun j hj ih => by
          have h1 := bs_take_bound ha (j := j) (by omega)
          have h2 := capOk_get ha (j := j) (by omega)
          have h3 := bs_take_bound ha (j := min j m) (by omega)
          refine Ev.step (fun k => ?_) ih
          simp only [impl_Base.l0]
          rw [if_pos (by omega), if_pos (by omega), if_pos (by omega), rd_get (by omega), wrap_in (n := l[j] + 4) (by omega) (by omega), wrap_in (n := bs (l.take j) + (l[j] + 4)) (by omega) (by omega), wrapS hj (by omega), ← bs_succ]
          by_cases hc : (j : Int) < (m : Int)
          · rw [if_pos hc, wrap_in (by omega) (by omega), Nat.min_eq_left (by omega), Nat.min_eq_left (by omega), ← bs_succ]
          · rw [if_neg hc, Nat.min_eq_right (by omega), Nat.min_eq_right (by omega)])
      exact key 0 (Nat.zero_le _)
    · rw [show l.all capOk = false by simpa using ha, Bool.not_false, baseOf, if_neg (fun c => by have := c.1; simp only [laid, Bool.and_eq_true] at this; exact ha this.1)]
      exact Ev.one fun k => by rw [impl_Base.j0, if_pos rfl]
  · have hi : inn n 0 ((l.length : Int) - 1) = false := by simp [inn]; omega
    simp only [hi, Bool.false_eq_true, if_false]
    rw [baseOf, if_neg (fun c => hn c.2)]
    exact Ev.one fun k => by rw [impl_Base.j0, if_pos rfl]

theorem spec_l9Base_ev (l : List Int) (h : l.length ≤ 1048576) (ha : l.all capOk = true) (m : Nat) (hm : m ≤ l.length) : Ev (fun k => spec_l9Base.f k l (m : Int)) (bs (l.take m)) := by
  have key := count_up (L := fun j k => spec_l9Base.l0 k l (m : Int) (bs (l.take j)) (j : Int)) (R := fun _ => bs (l.take m)) (n := m)
    (Ev.one fun k => by simp [spec_l9Base.l0])
    (fun j hj ih => by
      have h1 := bs_take_bound ha (j := j) (by omega)
      have h2 := capOk_get ha (j := j) (by omega)
      exact Ev.step (fun k => by
        simp only [spec_l9Base.l0]
        rw [if_pos (by omega), if_pos (by omega), if_pos (by omega), rd_get (by omega), wrap_in (n := bs (l.take j) + l[j]) (by omega) (by omega), wrap_in (by omega) (by omega), wrapS (n := l.length) (by omega) (by omega), show bs (l.take j) + l[j] + 4 = bs (l.take j) + (l[j] + 4) by omega, ← bs_succ]) ih)
  exact key 0 (Nat.zero_le _)
theorem spec_l9Right_ev (l : List Int) (h : l.length ≤ 1048576) : Ev (fun k => spec_l9Right.f k l) (laid l) := by
  by_cases ha : l.all capOk = true
  · have key := count_up (L := fun j k => spec_l9Right.l0 k l (j : Int)) (R := fun _ => laid l) (n := l.length)
      (by
        by_cases h24 : (l.length : Int) ≤ 24
        · refine Ev.step (f := fun k => (spec_l9Base.f k l (l.length : Int)).bind fun t111 => (some (decide (t111 ≤ 24)))) (fun k => ?_) (Ev.bind (spec_l9Base_ev l h ha l.length (Nat.le_refl _)) ?_)
          · simp only [spec_l9Right.l0]
            rw [if_neg (by omega), if_pos h24]
          · rw [bs_all]
            simp only [laid, ha, Bool.true_and]
            exact Ev.now _
        · refine Ev.one fun k => ?_
          simp only [spec_l9Right.l0]
          have := (bs_bound l ha).1
          rw [if_neg (by omega), if_neg h24, laid, decide_eq_false (by omega), Bool.and_false])
      (fun j hj ih => Ev.step (fun k => by
        simp only [spec_l9Right.l0]
        rw [if_pos (by omega), if_pos (by omega), rd_get hj, spec_l1In_eq, Option.bind_some, show inn l[j] 1 4 = true from List.all_eq_true.1 ha _ (List.getElem_mem hj), if_pos rfl, wrapS hj (by omega)]) ih)
    exact key 0 (Nat.zero_le _)
  · have hl : laid l = false := by simp [laid, ha]
    have hf : allFrom capOk l 0 = false := by rw [allFrom_zero]; simpa using ha
    have key : ∀ d j, j + d = l.length → allFrom capOk l j = false → Ev (fun k => spec_l9Right.l0 k l (j : Int)) false := by
      intro d
      induction d with
      | zero =>
        intro j hj hf
        obtain rfl : j = l.length := by omega
        rw [allFrom_end] at hf
        cases hf
      | succ d ih =>
        intro j hj hf
        rw [allFrom_step (by omega)] at hf
        by_cases e : capOk (l[j]'(by omega)) = true
        · rw [e, Bool.true_and] at hf
          exact Ev.step (fun k => by
            simp only [spec_l9Right.l0]
            rw [if_pos (by omega), if_pos (by omega), rd_get (by omega), spec_l1In_eq, Option.bind_some, show inn (l[j]'(by omega)) 1 4 = true from e, if_pos rfl, wrapS (n := l.length) (by omega) (by omega)]) (ih (j + 1) (by omega) hf)
        · refine Ev.one fun k => ?_
          simp only [spec_l9Right.l0]
          rw [if_pos (by omega), if_pos (by omega), rd_get (by omega), spec_l1In_eq, Option.bind_some, if_neg (show ¬ inn (l[j]'(by omega)) 1 4 = true from e)]
    rw [hl]
    exact key l.length 0 (by omega) hf
theorem spec_Base_ev (l : List Int) (h : l.length ≤ 1048576) (n : Int) : Ev (fun k => spec_Base.f k l n) (baseOf l n) := by
  simp only [spec_Base.f]
  refine Ev.bind (spec_l9Right_ev l h) ?_
  by_cases hl : laid l = true
  · simp only [hl, if_true, spec_l1In_eq, Option.bind_some]
    rw [wrap_in (by omega) (by omega)]
    by_cases hn : 0 ≤ n ∧ n < (l.length : Int)
    · have hi : inn n 0 ((l.length : Int) - 1) = true := by simp [inn]; omega
      have ha : l.all capOk = true := by simp only [laid, Bool.and_eq_true] at hl; exact hl.1
      simp only [hi, if_true]
      obtain ⟨m, rfl⟩ := Int.eq_ofNat_of_zero_le hn.1
      refine Ev.bind (spec_l9Base_ev l h ha m (by omega)) ?_
      rw [baseOf, if_pos ⟨hl, hn⟩, Int.toNat_natCast]
      exact Ev.now _
    · have hi : inn n 0 ((l.length : Int) - 1) = false := by simp [inn]; omega
      simp only [hi, Bool.false_eq_true, if_false]
      rw [baseOf, if_neg (fun c => hn c.2)]
      exact Ev.now _
  · simp only [hl, if_false]
    rw [baseOf, if_neg (fun c => hl c.1)]
    exact Ev.now _

theorem base_in {l : List Int} {n : Int} (h : 0 ≤ baseOf l n) : baseOf l n < 24 := by
  unfold baseOf at h ⊢
  by_cases c : laid l = true ∧ 0 ≤ n ∧ n < (l.length : Int)
  · rw [if_pos c]
    obtain ⟨hl, h0, h1⟩ := c
    unfold laid at hl
    simp only [Bool.and_eq_true, decide_eq_true_eq] at hl
    have hj : n.toNat < l.length := by omega
    have e1 := bs_append (l.take n.toNat) (l.drop n.toNat)
    rw [List.take_append_drop, List.drop_eq_getElem_cons hj] at e1
    have hd : (l.drop (n.toNat + 1)).all capOk = true := by
      rw [List.all_eq_true] at *
      exact fun x hx => hl.1 x (List.mem_of_mem_drop hx)
    have h2 := (bs_bound _ hd).1
    have h3 := capOk_get hl.1 hj
    simp only [bs] at e1
    omega
  · rw [if_neg c] at h
    omega
/-- The number of the last write of a cell. -/
def lastOf (m : List (List S119)) (b : Int) : Int := ((m.getD b.toNat []).getD ((m.getD b.toNat []).length - 1) z119).f0
theorem mem_cell {m : List (List S119)} (h : memOk m = true) {b : Int} (h0 : 0 ≤ b) (h1 : b < 24) : b < (m.length : Int) ∧ 1 ≤ (m.getD b.toNat []).length ∧ (m.getD b.toNat []).length ≤ 4000 := by
  unfold memOk at h
  simp only [Bool.and_eq_true, decide_eq_true_eq] at h
  obtain ⟨ha, hl⟩ := h
  have hj : b.toNat < m.length := by omega
  have hc := List.all_eq_true.mp ha m[b.toNat] (List.getElem_mem hj)
  unfold cellIn inn at hc
  simp only [Bool.and_eq_true, decide_eq_true_eq] at hc
  have e : m.getD b.toNat [] = m[b.toNat] := by simp [List.getD_eq_getElem?_getD, hj]
  rw [e]
  omega
theorem impl_last_eq (m : List (List S119)) (h : memOk m = true) (b : Int) (h0 : 0 ≤ b) (h1 : b < 24) : impl_Memory_last.f m b = some (lastOf m b) := by
  obtain ⟨g1, g2, g3⟩ := mem_cell h h0 h1
  have e : rd_L5 m b = m.getD b.toNat [] := rfl
  have w := wrap_in (n := ((m.getD b.toNat []).length : Int) - 1) (by omega) (by omega)
  unfold impl_Memory_last.f
  rw [if_pos h0, if_pos g1, e, w, if_pos (by omega), if_pos (by omega)]
  unfold lastOf rd_T119
  rw [show (((m.getD b.toNat []).length : Int) - 1).toNat = (m.getD b.toNat []).length - 1 by omega]
theorem spec_last_eq (m : List (List S119)) (h : memOk m = true) (b : Int) (h0 : 0 ≤ b) (h1 : b < 24) : spec_l9Last.f m b = some (lastOf m b) := by
  obtain ⟨g1, g2, g3⟩ := mem_cell h h0 h1
  have e : rd_L5 m b = m.getD b.toNat [] := rfl
  have w := wrap_in (n := ((m.getD b.toNat []).length : Int) - 1) (by omega) (by omega)
  unfold spec_l9Last.f
  rw [if_pos h0, if_pos g1, e, w, if_pos (by omega), if_pos (by omega)]
  unfold lastOf rd_T119
  rw [show (((m.getD b.toNat []).length : Int) - 1).toNat = (m.getD b.toNat []).length - 1 by omega]
def lockedOf (m : List (List S119)) (l : List Int) (n : Int) : Bool := if 0 ≤ baseOf l n then (if memOk m = true then (lastOf m (baseOf l n) != 0) else false) else false
theorem impl_Locked_ev (m : List (List S119)) (hm : Small m) (l : List Int) (hl : l.length ≤ 1048576) (n : Int) : Ev (fun k => impl_Locked.f k m l n) (lockedOf m l n) := by
  simp only [impl_Locked.f]
  refine Ev.bind (impl_Base_ev l hl n) ?_
  unfold lockedOf
  by_cases h : 0 ≤ baseOf l n
  · refine Ev.ite_pos h ?_
    rw [if_pos h]
    refine Ev.bind (impl_MemoryOk_ev m hm) ?_
    by_cases h2 : memOk m = true
    · refine Ev.ite_pos h2 ?_
      rw [if_pos h2]
      simp only [impl_last_eq m h2 _ h (base_in h), Option.bind_some]
      exact Ev.now _
    · refine Ev.ite_neg h2 ?_
      rw [if_neg h2]
      exact Ev.now _
  · refine Ev.ite_neg h ?_
    rw [if_neg h]
    exact Ev.now _
theorem spec_Locked_ev (m : List (List S119)) (hm : Small m) (l : List Int) (hl : l.length ≤ 1048576) (n : Int) : Ev (fun k => spec_Locked.f k m l n) (lockedOf m l n) := by
  simp only [spec_Locked.f]
  refine Ev.bind (spec_Base_ev l hl n) ?_
  unfold lockedOf
  by_cases h : 0 ≤ baseOf l n
  · refine Ev.ite_pos h ?_
    rw [if_pos h]
    refine Ev.bind (spec_MemoryOk_ev m hm) ?_
    by_cases h2 : memOk m = true
    · refine Ev.ite_pos h2 ?_
      rw [if_pos h2]
      simp only [spec_last_eq m h2 _ h (base_in h), Option.bind_some]
      exact Ev.now _
    · refine Ev.ite_neg h2 ?_
      rw [if_neg h2]
      exact Ev.now _
  · refine Ev.ite_neg h ?_
    rw [if_neg h]
    exact Ev.now _

theorem FnExactLocked (x0_0 : (List (List S151))) (x1 : (List Int)) (x2 : Int) (ok0 : (x0_0.length ≤ maxLen ∧ ∀ z ∈ x0_0, (z.length ≤ maxLen ∧ ∀ z' ∈ z, (((Lit.int .i64 z'.f0).wf = true) ∧ (z'.f1.length ≤ maxLen ∧ ∀ z'' ∈ z'.f1, ((Lit.int .i64 z'').wf = true)))))) (ok1 : (x1.length ≤ maxLen ∧ ∀ z ∈ x1, ((Lit.int .i64 z).wf = true))) (ok2 : ((Lit.int .i64 x2).wf = true)) : ∃ k, laws_FnExactLocked.f k x0_0 x1 x2 = some true := by
  have hn : x1.length ≤ 9223372036854775807 := by have := ok1.1; unfold maxLen at this; omega
  refine Ev.rounds (g := fun k => laws_FnExactLocked.f k x0_0 x1 x2) ?_
  simp only [laws_FnExactLocked.f]
  by_cases hc : (x1.length : Int) > 1048576
  · exact Ev.ite_pos hc (Ev.now _)
  refine Ev.ite_neg hc ?_
  refine Ev.bind (szMemory_ev x0_0 1048576 (by omega) (by omega) ⟨(by have := ((ok0)).1; unfold maxLen at this; omega), fun x0_ h0_ => ⟨(by have := (((ok0)).2 x0_ h0_).1; unfold maxLen at this; omega), fun x1_ h1_ => (by have := (((((ok0)).2 x0_ h0_).2 x1_ h1_).2).1; unfold maxLen at this; omega)⟩⟩) ?_
  by_cases h : ((x0_0.length + total wlWriteS x0_0 : Nat) : Int) ≤ 1048576
  case neg => rw [left?_no h]; exact Ev.ite_pos (by omega) (Ev.now _)
  rw [left?_yes h]
  refine Ev.ite_neg (by omega) ?_
  have hs := small_of x0_0 (by omega)
  refine Ev.bind (toMemory_ev x0_0 (by omega)) ?_
  refine Ev.bind (toIntS_ev x1 (by omega)) ?_
  refine Ev.bind (spec_Locked_ev _ hs x1 (by omega) x2) ?_
  refine Ev.bind (toMemory_ev x0_0 (by omega)) ?_
  refine Ev.bind (toIntS_ev x1 (by omega)) ?_
  refine Ev.bind (impl_Locked_ev _ hs x1 (by omega) x2) ?_
  simp only [bne_self_eq_false, Bool.false_eq_true, if_false]
  refine Ev.bind (toMemory_ev x0_0 (by omega)) ?_
  refine Ev.bind (eqMemory_self _ (eq_small x0_0 (by omega))) ?_
  simp only [if_true]
  refine Ev.bind (toIntS_ev x1 (by omega)) ?_
  refine Ev.bind (eqIntS_self _ (by omega)) ?_
  simp only [if_true]
  exact Ev.now _

end Go.Proofs.Ytfaoipojijhlbaa.Pure
