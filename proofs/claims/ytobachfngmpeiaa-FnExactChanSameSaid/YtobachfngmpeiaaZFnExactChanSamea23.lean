/- A part of the proof that the law FnExactChanSame holds for every input: the words, functions and walks that its row needs, without a condition of their own. -/
import Derived.ProofKit
import Derived.DataElems
import Derived.ChangeArms
import Derived.SizedLaws
import Derived.Test.YtobachfngmpeiaaZFnExactChanSamea0
import Derived.Test.YtobachfngmpeiaaZFnExactChanSamea21
import Derived.Test.YtobachfngmpeiaaZFnExactChanSamea22
namespace Go.Proofs.Ytobachfngmpeiaa.Pure
open Go.RowKit Go.Proofs.Ytobachfngmpeiaa Go.Proofs.Ytobachfngmpeiaa.PFnExactChanSame Go.Proofs.YtobachfngmpeiaaW.PrintWords Go.Proofs.YtobachfngmpeiaaW.PrintLast Go.Proofs.Ytobachfngmpeiaa.Lp
set_option linter.unusedVariables false
set_option linter.unusedSimpArgs false
theorem toIntS_ev (l : List Int) (h : l.length ≤ 35184372088832) : Ev (fun k => laws_toIntS.f k l) l := by
  have key := count_up (L := fun j k => laws_toIntS.l0 k l (l.take j ++ List.replicate (l.length - j) 0) (j : Int)) (R := fun _ => l) (n := l.length)
    (Ev.one fun k => by simp [laws_toIntS.l0])
    (fun j hj ih => Ev.step (fun k => by
      simp only [laws_toIntS.l0]
      rw [if_pos (by omega),if_pos (by omega),if_pos (by simp;omega),wrapS hj (by omega),Int.toNat_natCast,fill_set l 0 j hj _ (rd_get hj)]) ih)
  refine Ev.congr (fun k => ?_) (key 0 (Nat.zero_le _))
  unfold laws_toIntS.f
  rw [if_pos (by omega),if_pos (by simpa using h)]
  simp
theorem eqIntS_ev (a b : List Int) (h : a.length ≤ 9223372036854775807) : Ev (fun k => laws_eqIntS.f k a b) (decide (a = b)) := by
  by_cases hl : a.length = b.length
  · have key := count_up (L := fun j k => laws_eqIntS.l0 k a b (j : Int)) (R := fun j => agree a b j) (n := a.length)
      (Ev.one fun k => by simp [laws_eqIntS.l0,agree_end hl])
      (fun j hj ih => by
        by_cases e : a[j] = b[j]
        · exact Ev.step (fun k => by
            simp only [laws_eqIntS.l0]
            rw [if_pos (by omega),if_pos (by omega),if_pos (by omega),if_pos (by rw [rd_get hj,rd_get (by omega),e]),wrapS hj (by omega)]) (by rw [agree_step hj (by omega) e];exact ih)
        · exact Ev.one fun k => by
            simp only [laws_eqIntS.l0]
            rw [if_pos (by omega),if_pos (by omega),if_pos (by omega),if_neg (by rw [rd_get hj,rd_get (by omega)];exact e),agree_no hj (by omega) e])
    refine Ev.congr (fun k => ?_) (key 0 (Nat.zero_le _))
    unfold laws_eqIntS.f
    rw [if_pos (by omega)]
    rfl
  · refine Ev.all fun k => ?_
    unfold laws_eqIntS.f
    rw [if_neg (by omega),decide_eq_false (fun e => hl (by rw [e]))]
theorem eqIntS_self (a : List Int) (h : a.length ≤ 9223372036854775807) : Ev (fun k => laws_eqIntS.f k a a) true := by
  have := eqIntS_ev a a h
  simpa using this
def wlWrite (x : S238) : Nat := x.f1.length
def wiWrite (x : S170) : Nat := x.f1.length
def cvWrite (x : S238) : S170 := ⟨x.f0,x.f1⟩
theorem w_cvWrite (x : S238) : wiWrite (cvWrite x) = wlWrite x := rfl
def cvWriteS (xs : (List S238)) : (List S170) := xs.map cvWrite
def wlWriteS (xs : (List S238)) : Nat := (xs.length + total wlWrite xs)
def wiWriteS (xs : (List S170)) : Nat := (xs.length + total wiWrite xs)
theorem w_cvWriteS (xs : (List S238)) : wiWriteS (cvWriteS xs) = wlWriteS xs := by
  simp only [wiWriteS,wlWriteS,cvWriteS,List.length_map]
  rw [total_map wlWrite wiWrite cvWrite w_cvWrite]
theorem szIntS_ev (l : (List Int)) (a : Int) (h0 : 0 ≤ a) (hB : a ≤ 1048576) (hl : l.length ≤ 9223372036854775807) : Ev (fun k => laws_szIntS.f l a) (left? l.length a) := by
  refine Ev.all fun k => ?_
  unfold laws_szIntS.f left?
  rw [wrap_in (by omega) (by omega)]
  by_cases h : (l.length : Int) ≤ a
  · rw [if_neg (by omega),if_pos h]
  · rw [if_pos (by omega),if_neg h]
theorem szWrite_ev (a_0 : Int) (a_1 : (List Int)) (a : Int) (h0 : 0 ≤ a) (hB : a ≤ 1048576) (hfin : a_1.length ≤ 9223372036854775807) : Ev (fun k => laws_szWrite.f a_0 a_1 a) (left? (a_1.length) a) := by
  simp only [laws_szWrite.f]
  refine Ev.bind (szIntS_ev a_1 a (by omega) (by omega) hfin) ?_
  by_cases c0 : ((a_1.length : Nat) : Int) ≤ a
  case neg => rw [left?_no c0];(try rw [left?_no (by omega)]);exact Ev.ite_pos (by omega) (Ev.now _)
  rw [left?_yes c0]
  refine Ev.ite_neg (by omega) ?_
  (try rw [left?_yes (by omega)])
  exact Ev.val (by omega) (Ev.now _)
theorem szWriteS_ev (xs : (List S238)) (a : Int) (h0 : 0 ≤ a) (hB : a ≤ 1048576) (hfin : (xs.length ≤ 9223372036854775807 ∧ ∀ y ∈ xs,y.f1.length ≤ 9223372036854775807)) : Ev (fun k => laws_szWriteS.f k xs a) (left? (xs.length + total wlWrite xs) a) := by
  obtain ⟨hl,hfin⟩ := hfin
  have rd_e : ∀ (j : Nat) (hj : j < xs.length),rd_T238 xs (j : Int) = xs[j] := fun j hj => by simp [rd_T238,List.getD_eq_getElem?_getD,hj]
  by_cases h : (xs.length : Int) ≤ a
  · have key := sz_loop (L := fun j a k => laws_szWriteS.l0 k xs a (j : Int)) xs wlWrite 1048576 (fun a => Ev.one fun k => by simp only [laws_szWriteS.l0];rw [if_neg (by omega)])
      (fun j hj a hB hw r ih => by
        have h0 : 0 ≤ a := by omega
        have hw' : ((xs[j].f1.length : Nat) : Int) ≤ a := hw
        refine Ev.step (fun k => by simp only [laws_szWriteS.l0];rw [if_pos (by omega),if_pos (by omega),rd_e j hj]) (Ev.bind (szWrite_ev (xs[j].f0) (xs[j].f1) a h0 hB (hfin xs[j] (List.getElem_mem hj))) ?_)
        rw [left?_yes hw',wrapS hj hl]
        exact Ev.ite_neg (by omega) ih)
      (fun j hj a h0 hB hw => by
        have hw' : ¬ ((xs[j].f1.length : Nat) : Int) ≤ a := by have : a < (wlWrite xs[j] : Int) := hw;intro c;exact absurd (show (wlWrite xs[j] : Int) ≤ a from c) (by omega)
        refine Ev.step (fun k => by simp only [laws_szWriteS.l0];rw [if_pos (by omega),if_pos (by omega),rd_e j hj]) (Ev.bind (szWrite_ev (xs[j].f0) (xs[j].f1) a h0 hB (hfin xs[j] (List.getElem_mem hj))) ?_)
        rw [left?_no hw']
        exact Ev.ite_pos (by omega) (Ev.now _)) (a - (xs.length : Int)) (by omega) (by omega)
    rw [left?_add h] at key
    refine Ev.congr (fun k => ?_) key
    unfold laws_szWriteS.f
    rw [wrap_in (by omega) (by omega),if_neg (by omega)]
    rfl
  · refine Ev.all fun k => ?_
    unfold laws_szWriteS.f
    rw [wrap_in (by omega) (by omega),if_pos (by omega),left?_no (by omega)]
theorem szWriteSS_ev (xs : (List (List S238))) (a : Int) (h0 : 0 ≤ a) (hB : a ≤ 1048576) (hfin : (xs.length ≤ 9223372036854775807 ∧ ∀ y ∈ xs,(y.length ≤ 9223372036854775807 ∧ ∀ y' ∈ y,y'.f1.length ≤ 9223372036854775807))) : Ev (fun k => laws_szWriteSS.f k xs a) (left? (xs.length + total wlWriteS xs) a) := by
  obtain ⟨hl,hfin⟩ := hfin
  have rd_e : ∀ (j : Nat) (hj : j < xs.length),rd_L22 xs (j : Int) = xs[j] := fun j hj => by simp [rd_L22,List.getD_eq_getElem?_getD,hj]
  by_cases h : (xs.length : Int) ≤ a
  · have key := sz_loop (L := fun j a k => laws_szWriteSS.l0 k xs a (j : Int)) xs wlWriteS 1048576 (fun a => Ev.one fun k => by simp only [laws_szWriteSS.l0];rw [if_neg (by omega)])
      (fun j hj a hB hw r ih => by
        have h0 : 0 ≤ a := by omega
        have hw' : (((xs[j].length + total wlWrite xs[j]) : Nat) : Int) ≤ a := hw
        refine Ev.step (fun k => by simp only [laws_szWriteSS.l0];rw [if_pos (by omega),if_pos (by omega),rd_e j hj]) (Ev.bind (szWriteS_ev xs[j] a h0 hB (hfin xs[j] (List.getElem_mem hj))) ?_)
        rw [left?_yes hw',wrapS hj hl]
        exact Ev.ite_neg (by omega) ih)
      (fun j hj a h0 hB hw => by
        have hw' : ¬ (((xs[j].length + total wlWrite xs[j]) : Nat) : Int) ≤ a := by have : a < (wlWriteS xs[j] : Int) := hw;intro c;exact absurd (show (wlWriteS xs[j] : Int) ≤ a from c) (by omega)
        refine Ev.step (fun k => by simp only [laws_szWriteSS.l0];rw [if_pos (by omega),if_pos (by omega),rd_e j hj]) (Ev.bind (szWriteS_ev xs[j] a h0 hB (hfin xs[j] (List.getElem_mem hj))) ?_)
        rw [left?_no hw']
        exact Ev.ite_pos (by omega) (Ev.now _)) (a - (xs.length : Int)) (by omega) (by omega)
    rw [left?_add h] at key
    refine Ev.congr (fun k => ?_) key
    unfold laws_szWriteSS.f
    rw [wrap_in (by omega) (by omega),if_neg (by omega)]
    rfl
  · refine Ev.all fun k => ?_
    unfold laws_szWriteSS.f
    rw [wrap_in (by omega) (by omega),if_pos (by omega),left?_no (by omega)]
theorem szMemory_ev (a_0 : (List (List S238))) (a : Int) (h0 : 0 ≤ a) (hB : a ≤ 1048576) (hfin : (a_0.length ≤ 9223372036854775807 ∧ ∀ y ∈ a_0,(y.length ≤ 9223372036854775807 ∧ ∀ y' ∈ y,y'.f1.length ≤ 9223372036854775807))) : Ev (fun k => laws_szMemory.f k a_0 a) (left? ((a_0.length + total wlWriteS a_0)) a) := by
  simp only [laws_szMemory.f]
  refine Ev.bind (szWriteSS_ev a_0 a (by omega) (by omega) hfin) ?_
  by_cases c0 : (((a_0.length + total wlWriteS a_0) : Nat) : Int) ≤ a
  case neg => rw [left?_no c0];(try rw [left?_no (by omega)]);exact Ev.ite_pos (by omega) (Ev.now _)
  rw [left?_yes c0]
  refine Ev.ite_neg (by omega) ?_
  (try rw [left?_yes (by omega)])
  exact Ev.val (by omega) (Ev.now _)
theorem toWrite_ev (a_0 : Int) (a_1 : (List Int)) (h : a_1.length ≤ 1048576) : Ev (fun k => laws_toWrite.f k a_0 a_1) (a_0,a_1) := by
  simp only [laws_toWrite.f]
  refine Ev.bind (toIntS_ev a_1 (by omega)) ?_
  try simp only []
  exact Ev.now _
theorem toWriteS_ev (xs : (List S238)) (h : (xs.length + total wlWrite xs) ≤ 1048576) : Ev (fun k => laws_toWriteS.f k xs) (xs.map cvWrite) := by
  have rd_e : ∀ (j : Nat) (hj : j < xs.length),rd_T238 xs (j : Int) = xs[j] := fun j hj => by simp [rd_T238,List.getD_eq_getElem?_getD,hj]
  have key := to_loop (L := fun j ys k => laws_toWriteS.l0 k xs ys (j : Int)) xs cvWrite z170 (fun ys _ => Ev.one fun k => by simp only [laws_toWriteS.l0];rw [if_neg (by omega)])
    (fun j hj ys hy r ih => by
      refine Ev.step (fun k => by simp only [laws_toWriteS.l0];rw [if_pos (by omega),if_pos (by omega),rd_e j hj]) (Ev.bind (toWrite_ev (xs[j].f0) (xs[j].f1) (by have := total_mem wlWrite (List.getElem_mem hj);have h2 : xs[j].f1.length = wlWrite xs[j] := rfl;omega)) ?_)
      refine Ev.ite_pos (by omega) ?_
      rw [wrapS hj (by omega),Int.toNat_natCast]
      exact ih)
  refine Ev.congr (fun k => ?_) key
  unfold laws_toWriteS.f
  rw [if_pos (by omega),if_pos (by simp;omega)]
  simp only [Int.toNat_natCast]
  rfl
theorem toWriteSS_ev (xs : (List (List S238))) (h : (xs.length + total wlWriteS xs) ≤ 1048576) : Ev (fun k => laws_toWriteSS.f k xs) (xs.map cvWriteS) := by
  have rd_e : ∀ (j : Nat) (hj : j < xs.length),rd_L22 xs (j : Int) = xs[j] := fun j hj => by simp [rd_L22,List.getD_eq_getElem?_getD,hj]
  have key := to_loop (L := fun j ys k => laws_toWriteSS.l0 k xs ys (j : Int)) xs cvWriteS [] (fun ys _ => Ev.one fun k => by simp only [laws_toWriteSS.l0];rw [if_neg (by omega)])
    (fun j hj ys hy r ih => by
      refine Ev.step (fun k => by simp only [laws_toWriteSS.l0];rw [if_pos (by omega),if_pos (by omega),rd_e j hj]) (Ev.bind (toWriteS_ev xs[j] (by have := total_mem wlWriteS (List.getElem_mem hj);have h2 : (xs[j].length + total wlWrite xs[j]) = wlWriteS xs[j] := rfl;omega)) ?_)
      refine Ev.ite_pos (by omega) ?_
      rw [wrapS hj (by omega),Int.toNat_natCast]
      exact ih)
  refine Ev.congr (fun k => ?_) key
  unfold laws_toWriteSS.f
  rw [if_pos (by omega),if_pos (by simp;omega)]
  simp only [Int.toNat_natCast]
  rfl
theorem toMemory_ev (a_0 : (List (List S238))) (h : (a_0.length + total wlWriteS a_0) ≤ 1048576) : Ev (fun k => laws_toMemory.f k a_0) (a_0.map cvWriteS) := by
  simp only [laws_toMemory.f]
  refine Ev.bind (toWriteSS_ev a_0 h) ?_
  try simp only []
  exact Ev.now _
theorem eqWrite_self (a_0 : Int) (a_1 : (List Int)) (h : a_1.length ≤ 1048576) : Ev (fun k => laws_eqWrite.f k a_0 a_1 a_0 a_1) true := by
  simp only [laws_eqWrite.f,eq_self,if_true,bne_self_eq_false,Bool.false_eq_true,if_false]
  refine Ev.bind (eqIntS_self a_1 (by omega)) ?_
  try simp only [eq_self,if_true,bne_self_eq_false,Bool.false_eq_true,if_false]
  exact Ev.now _
theorem eqWriteS_self (xs : (List S170)) (h : (xs.length + total wiWrite xs) ≤ 1048576) : Ev (fun k => laws_eqWriteS.f k xs xs) true := by
  have rd_e : ∀ (j : Nat) (hj : j < xs.length),rd_T170 xs (j : Int) = xs[j] := fun j hj => by simp [rd_T170,List.getD_eq_getElem?_getD,hj]
  have key := yes_loop (L := fun j k => laws_eqWriteS.l0 k xs xs (j : Int)) xs.length true (Ev.one fun k => by simp only [laws_eqWriteS.l0];rw [if_neg (by omega)])
    (fun j hj ih => by
      refine Ev.step (fun k => by simp only [laws_eqWriteS.l0];rw [if_pos (by omega),if_pos (by omega),if_pos (by omega),rd_e j hj]) (Ev.bind (eqWrite_self (xs[j].f0) (xs[j].f1) (by have := total_mem wiWrite (List.getElem_mem hj);have h2 : xs[j].f1.length = wiWrite xs[j] := rfl;omega)) ?_)
      refine Ev.ite_pos rfl ?_
      rw [wrapS hj (by omega)]
      exact ih)
  refine Ev.congr (fun k => ?_) key
  unfold laws_eqWriteS.f
  rw [if_pos rfl]
  rfl
theorem eqWriteSS_self (xs : (List (List S170))) (h : (xs.length + total wiWriteS xs) ≤ 1048576) : Ev (fun k => laws_eqWriteSS.f k xs xs) true := by
  have rd_e : ∀ (j : Nat) (hj : j < xs.length),rd_L14 xs (j : Int) = xs[j] := fun j hj => by simp [rd_L14,List.getD_eq_getElem?_getD,hj]
  have key := yes_loop (L := fun j k => laws_eqWriteSS.l0 k xs xs (j : Int)) xs.length true (Ev.one fun k => by simp only [laws_eqWriteSS.l0];rw [if_neg (by omega)])
    (fun j hj ih => by
      refine Ev.step (fun k => by simp only [laws_eqWriteSS.l0];rw [if_pos (by omega),if_pos (by omega),if_pos (by omega),rd_e j hj]) (Ev.bind (eqWriteS_self xs[j] (by have := total_mem wiWriteS (List.getElem_mem hj);have h2 : (xs[j].length + total wiWrite xs[j]) = wiWriteS xs[j] := rfl;omega)) ?_)
      refine Ev.ite_pos rfl ?_
      rw [wrapS hj (by omega)]
      exact ih)
  refine Ev.congr (fun k => ?_) key
  unfold laws_eqWriteSS.f
  rw [if_pos rfl]
  rfl
theorem eqMemory_self (a_0 : (List (List S170))) (h : (a_0.length + total wiWriteS a_0) ≤ 1048576) : Ev (fun k => laws_eqMemory.f k a_0 a_0) true := by
  simp only [laws_eqMemory.f,eq_self,if_true,bne_self_eq_false,Bool.false_eq_true,if_false]
  refine Ev.bind (eqWriteSS_self a_0 h) ?_
  try simp only [eq_self,if_true,bne_self_eq_false,Bool.false_eq_true,if_false]
  exact Ev.now _
def cvIns (x : S208) : S192 := ⟨x.f0,x.f1,x.f2,x.f3,x.f4⟩
def cvInsS (xs : (List S208)) : (List S192) := xs.map cvIns
def wlInsS (xs : (List S208)) : Nat := xs.length
def wiInsS (xs : (List S192)) : Nat := xs.length
theorem w_cvInsS (xs : (List S208)) : wiInsS (cvInsS xs) = wlInsS xs := by simp [wiInsS,wlInsS,cvInsS]
theorem szInsS_ev (l : (List S208)) (a : Int) (h0 : 0 ≤ a) (hB : a ≤ 1048576) (hl : l.length ≤ 9223372036854775807) : Ev (fun k => laws_szInsS.f l a) (left? l.length a) := by
  refine Ev.all fun k => ?_
  unfold laws_szInsS.f left?
  rw [wrap_in (by omega) (by omega)]
  by_cases h : (l.length : Int) ≤ a
  · rw [if_neg (by omega),if_pos h]
  · rw [if_pos (by omega),if_neg h]
theorem szInsSS_ev (xs : (List (List S208))) (a : Int) (h0 : 0 ≤ a) (hB : a ≤ 1048576) (hfin : (xs.length ≤ 9223372036854775807 ∧ ∀ y ∈ xs,y.length ≤ 9223372036854775807)) : Ev (fun k => laws_szInsSS.f k xs a) (left? (xs.length + total wlInsS xs) a) := by
  obtain ⟨hl,hfin⟩ := hfin
  have rd_e : ∀ (j : Nat) (hj : j < xs.length),rd_L2 xs (j : Int) = xs[j] := fun j hj => by simp [rd_L2,List.getD_eq_getElem?_getD,hj]
  by_cases h : (xs.length : Int) ≤ a
  · have key := sz_loop (L := fun j a k => laws_szInsSS.l0 k xs a (j : Int)) xs wlInsS 1048576 (fun a => Ev.one fun k => by simp only [laws_szInsSS.l0];rw [if_neg (by omega)])
      (fun j hj a hB hw r ih => by
        have h0 : 0 ≤ a := by omega
        have hw' : ((xs[j].length : Nat) : Int) ≤ a := hw
        refine Ev.step (fun k => by simp only [laws_szInsSS.l0];rw [if_pos (by omega),if_pos (by omega),rd_e j hj]) (Ev.bind (szInsS_ev xs[j] a h0 hB (hfin xs[j] (List.getElem_mem hj))) ?_)
        rw [left?_yes hw',wrapS hj hl]
        exact Ev.ite_neg (by omega) ih)
      (fun j hj a h0 hB hw => by
        have hw' : ¬ ((xs[j].length : Nat) : Int) ≤ a := by have : a < (wlInsS xs[j] : Int) := hw;intro c;exact absurd (show (wlInsS xs[j] : Int) ≤ a from c) (by omega)
        refine Ev.step (fun k => by simp only [laws_szInsSS.l0];rw [if_pos (by omega),if_pos (by omega),rd_e j hj]) (Ev.bind (szInsS_ev xs[j] a h0 hB (hfin xs[j] (List.getElem_mem hj))) ?_)
        rw [left?_no hw']
        exact Ev.ite_pos (by omega) (Ev.now _)) (a - (xs.length : Int)) (by omega) (by omega)
    rw [left?_add h] at key
    refine Ev.congr (fun k => ?_) key
    unfold laws_szInsSS.f
    rw [wrap_in (by omega) (by omega),if_neg (by omega)]
    rfl
  · refine Ev.all fun k => ?_
    unfold laws_szInsSS.f
    rw [wrap_in (by omega) (by omega),if_pos (by omega),left?_no (by omega)]
theorem szProg_ev (a_0 : (List Int)) (a_1 : (List (List S208))) (a : Int) (h0 : 0 ≤ a) (hB : a ≤ 1048576) (hfin : (a_0.length ≤ 9223372036854775807 ∧ (a_1.length ≤ 9223372036854775807 ∧ ∀ y ∈ a_1,y.length ≤ 9223372036854775807))) : Ev (fun k => laws_szProg.f k a_0 a_1 a) (left? (a_0.length + ((a_1.length + total wlInsS a_1))) a) := by
  obtain ⟨h0_,h1_⟩ := hfin
  simp only [laws_szProg.f]
  refine Ev.bind (szIntS_ev a_0 a (by omega) (by omega) h0_) ?_
  by_cases c0 : ((a_0.length : Nat) : Int) ≤ a
  case neg => rw [left?_no c0];(try rw [left?_no (by omega)]);exact Ev.ite_pos (by omega) (Ev.now _)
  rw [left?_yes c0]
  refine Ev.ite_neg (by omega) ?_
  refine Ev.bind (szInsSS_ev a_1 (a - ((a_0.length : Nat) : Int)) (by omega) (by omega) h1_) ?_
  by_cases c1 : (((a_1.length + total wlInsS a_1) : Nat) : Int) ≤ (a - ((a_0.length : Nat) : Int))
  case neg => rw [left?_no c1];(try rw [left?_no (by omega)]);exact Ev.ite_pos (by omega) (Ev.now _)
  rw [left?_yes c1]
  refine Ev.ite_neg (by omega) ?_
  (try rw [left?_yes (by omega)])
  exact Ev.val (by omega) (Ev.now _)
theorem toIns_ev (a_0 : Int) (a_1 : Int) (a_2 : Int) (a_3 : Int) (a_4 : Int)  : Ev (fun k => laws_toIns.f a_0 a_1 a_2 a_3 a_4) (a_0,a_1,a_2,a_3,a_4) := by
  exact Ev.all fun k => rfl
theorem toInsS_ev (xs : (List S208)) (h : xs.length ≤ 1048576) : Ev (fun k => laws_toInsS.f k xs) (xs.map cvIns) := by
  have rd_e : ∀ (j : Nat) (hj : j < xs.length),rd_T208 xs (j : Int) = xs[j] := fun j hj => by simp [rd_T208,List.getD_eq_getElem?_getD,hj]
  have key := to_loop (L := fun j ys k => laws_toInsS.l0 k xs ys (j : Int)) xs cvIns z192 (fun ys _ => Ev.one fun k => by simp only [laws_toInsS.l0];rw [if_neg (by omega)])
    (fun j hj ys hy r ih => by
      refine Ev.step (fun k => by simp only [laws_toInsS.l0];rw [if_pos (by omega),if_pos (by omega),rd_e j hj]) (Ev.bind (toIns_ev (xs[j].f0) (xs[j].f1) (xs[j].f2) (xs[j].f3) (xs[j].f4) ) ?_)
      refine Ev.ite_pos (by omega) ?_
      rw [wrapS hj (by omega),Int.toNat_natCast]
      exact ih)
  refine Ev.congr (fun k => ?_) key
  unfold laws_toInsS.f
  rw [if_pos (by omega),if_pos (by simp;omega)]
  simp only [Int.toNat_natCast]
  rfl
theorem toInsSS_ev (xs : (List (List S208))) (h : (xs.length + total wlInsS xs) ≤ 1048576) : Ev (fun k => laws_toInsSS.f k xs) (xs.map cvInsS) := by
  have rd_e : ∀ (j : Nat) (hj : j < xs.length),rd_L2 xs (j : Int) = xs[j] := fun j hj => by simp [rd_L2,List.getD_eq_getElem?_getD,hj]
  have key := to_loop (L := fun j ys k => laws_toInsSS.l0 k xs ys (j : Int)) xs cvInsS [] (fun ys _ => Ev.one fun k => by simp only [laws_toInsSS.l0];rw [if_neg (by omega)])
    (fun j hj ys hy r ih => by
      refine Ev.step (fun k => by simp only [laws_toInsSS.l0];rw [if_pos (by omega),if_pos (by omega),rd_e j hj]) (Ev.bind (toInsS_ev xs[j] (by have := total_mem wlInsS (List.getElem_mem hj);have h2 : xs[j].length = wlInsS xs[j] := rfl;omega)) ?_)
      refine Ev.ite_pos (by omega) ?_
      rw [wrapS hj (by omega),Int.toNat_natCast]
      exact ih)
  refine Ev.congr (fun k => ?_) key
  unfold laws_toInsSS.f
  rw [if_pos (by omega),if_pos (by simp;omega)]
  simp only [Int.toNat_natCast]
  rfl
theorem toProg_ev (a_0 : (List Int)) (a_1 : (List (List S208))) (h0 : a_0.length ≤ 1048576) (h1 : (a_1.length + total wlInsS a_1) ≤ 1048576) : Ev (fun k => laws_toProg.f k a_0 a_1) (a_0,(a_1.map cvInsS)) := by
  simp only [laws_toProg.f]
  refine Ev.bind (toIntS_ev a_0 (by omega)) ?_
  try simp only []
  refine Ev.bind (toInsSS_ev a_1 h1) ?_
  try simp only []
  exact Ev.now _
theorem eqIns_self (a_0 : Int) (a_1 : Int) (a_2 : Int) (a_3 : Int) (a_4 : Int)  : Ev (fun k => laws_eqIns.f a_0 a_1 a_2 a_3 a_4 a_0 a_1 a_2 a_3 a_4) true := by
  exact Ev.all fun k => by simp [laws_eqIns.f]
theorem eqInsS_self (xs : (List S192)) (h : xs.length ≤ 1048576) : Ev (fun k => laws_eqInsS.f k xs xs) true := by
  have rd_e : ∀ (j : Nat) (hj : j < xs.length),rd_T192 xs (j : Int) = xs[j] := fun j hj => by simp [rd_T192,List.getD_eq_getElem?_getD,hj]
  have key := yes_loop (L := fun j k => laws_eqInsS.l0 k xs xs (j : Int)) xs.length true (Ev.one fun k => by simp only [laws_eqInsS.l0];rw [if_neg (by omega)])
    (fun j hj ih => by
      refine Ev.step (fun k => by simp only [laws_eqInsS.l0];rw [if_pos (by omega),if_pos (by omega),if_pos (by omega),rd_e j hj]) (Ev.bind (eqIns_self (xs[j].f0) (xs[j].f1) (xs[j].f2) (xs[j].f3) (xs[j].f4) ) ?_)
      refine Ev.ite_pos rfl ?_
      rw [wrapS hj (by omega)]
      exact ih)
  refine Ev.congr (fun k => ?_) key
  unfold laws_eqInsS.f
  rw [if_pos rfl]
  rfl
theorem eqInsSS_self (xs : (List (List S192))) (h : (xs.length + total wiInsS xs) ≤ 1048576) : Ev (fun k => laws_eqInsSS.f k xs xs) true := by
  have rd_e : ∀ (j : Nat) (hj : j < xs.length),rd_L4 xs (j : Int) = xs[j] := fun j hj => by simp [rd_L4,List.getD_eq_getElem?_getD,hj]
  have key := yes_loop (L := fun j k => laws_eqInsSS.l0 k xs xs (j : Int)) xs.length true (Ev.one fun k => by simp only [laws_eqInsSS.l0];rw [if_neg (by omega)])
    (fun j hj ih => by
      refine Ev.step (fun k => by simp only [laws_eqInsSS.l0];rw [if_pos (by omega),if_pos (by omega),if_pos (by omega),rd_e j hj]) (Ev.bind (eqInsS_self xs[j] (by have := total_mem wiInsS (List.getElem_mem hj);have h2 : xs[j].length = wiInsS xs[j] := rfl;omega)) ?_)
      refine Ev.ite_pos rfl ?_
      rw [wrapS hj (by omega)]
      exact ih)
  refine Ev.congr (fun k => ?_) key
  unfold laws_eqInsSS.f
  rw [if_pos rfl]
  rfl
theorem eqProg_self (a_0 : (List Int)) (a_1 : (List (List S192))) (h0 : a_0.length ≤ 1048576) (h1 : (a_1.length + total wiInsS a_1) ≤ 1048576) : Ev (fun k => laws_eqProg.f k a_0 a_1 a_0 a_1) true := by
  simp only [laws_eqProg.f,eq_self,if_true,bne_self_eq_false,Bool.false_eq_true,if_false]
  refine Ev.bind (eqIntS_self a_0 (by omega)) ?_
  try simp only [eq_self,if_true,bne_self_eq_false,Bool.false_eq_true,if_false]
  refine Ev.bind (eqInsSS_self a_1 h1) ?_
  try simp only [eq_self,if_true,bne_self_eq_false,Bool.false_eq_true,if_false]
  exact Ev.now _
theorem bodies_eq (xs : List (List S208)) (h : xs.length + total wlInsS xs ≤ 1048576) : (xs.map cvInsS).length + total wiInsS (xs.map cvInsS) ≤ 1048576 := by
  rw [List.length_map,total_map wlInsS wiInsS cvInsS w_cvInsS]
  exact h
def wlThread (x : S184) : Nat := x.f1.length
def wiThread (x : S107) : Nat := x.f1.length
def cvThread (x : S184) : S107 := ⟨x.f0,x.f1,x.f2⟩
theorem w_cvThread (x : S184) : wiThread (cvThread x) = wlThread x := rfl
def wlChan (x : S186) : Nat := x.f1.length
def wiChan (x : S94) : Nat := x.f1.length
def cvChan (x : S186) : S94 := ⟨x.f0,x.f1,x.f2⟩
theorem w_cvChan (x : S186) : wiChan (cvChan x) = wlChan x := rfl
def cvNote (x : S190) : S35 := ⟨x.f0,x.f1⟩
theorem szThread_ev (a_0 : Int) (a_1 : (List Int)) (a_2 : Int) (a : Int) (h0 : 0 ≤ a) (hB : a ≤ 1048576) (hfin : a_1.length ≤ 9223372036854775807) : Ev (fun k => laws_szThread.f a_0 a_1 a_2 a) (left? (a_1.length) a) := by
  simp only [laws_szThread.f]
  refine Ev.bind (szIntS_ev a_1 a (by omega) (by omega) hfin) ?_
  by_cases c0 : ((a_1.length : Nat) : Int) ≤ a
  case neg => rw [left?_no c0];(try rw [left?_no (by omega)]);exact Ev.ite_pos (by omega) (Ev.now _)
  rw [left?_yes c0]
  refine Ev.ite_neg (by omega) ?_
  (try rw [left?_yes (by omega)])
  exact Ev.val (by omega) (Ev.now _)
theorem szThreadS_ev (xs : (List S184)) (a : Int) (h0 : 0 ≤ a) (hB : a ≤ 1048576) (hfin : (xs.length ≤ 9223372036854775807 ∧ ∀ y ∈ xs,y.f1.length ≤ 9223372036854775807)) : Ev (fun k => laws_szThreadS.f k xs a) (left? (xs.length + total wlThread xs) a) := by
  obtain ⟨hl,hfin⟩ := hfin
  have rd_e : ∀ (j : Nat) (hj : j < xs.length),rd_T184 xs (j : Int) = xs[j] := fun j hj => by simp [rd_T184,List.getD_eq_getElem?_getD,hj]
  by_cases h : (xs.length : Int) ≤ a
  · have key := sz_loop (L := fun j a k => laws_szThreadS.l0 k xs a (j : Int)) xs wlThread 1048576 (fun a => Ev.one fun k => by simp only [laws_szThreadS.l0];rw [if_neg (by omega)])
      (fun j hj a hB hw r ih => by
        have h0 : 0 ≤ a := by omega
        have hw' : ((xs[j].f1.length : Nat) : Int) ≤ a := hw
        refine Ev.step (fun k => by simp only [laws_szThreadS.l0];rw [if_pos (by omega),if_pos (by omega),rd_e j hj]) (Ev.bind (szThread_ev (xs[j].f0) (xs[j].f1) (xs[j].f2) a h0 hB (hfin xs[j] (List.getElem_mem hj))) ?_)
        rw [left?_yes hw',wrapS hj hl]
        exact Ev.ite_neg (by omega) ih)
      (fun j hj a h0 hB hw => by
        have hw' : ¬ ((xs[j].f1.length : Nat) : Int) ≤ a := by have : a < (wlThread xs[j] : Int) := hw;intro c;exact absurd (show (wlThread xs[j] : Int) ≤ a from c) (by omega)
        refine Ev.step (fun k => by simp only [laws_szThreadS.l0];rw [if_pos (by omega),if_pos (by omega),rd_e j hj]) (Ev.bind (szThread_ev (xs[j].f0) (xs[j].f1) (xs[j].f2) a h0 hB (hfin xs[j] (List.getElem_mem hj))) ?_)
        rw [left?_no hw']
        exact Ev.ite_pos (by omega) (Ev.now _)) (a - (xs.length : Int)) (by omega) (by omega)
    rw [left?_add h] at key
    refine Ev.congr (fun k => ?_) key
    unfold laws_szThreadS.f
    rw [wrap_in (by omega) (by omega),if_neg (by omega)]
    rfl
  · refine Ev.all fun k => ?_
    unfold laws_szThreadS.f
    rw [wrap_in (by omega) (by omega),if_pos (by omega),left?_no (by omega)]
theorem szChan_ev (a_0 : Int) (a_1 : (List Int)) (a_2 : Bool) (a : Int) (h0 : 0 ≤ a) (hB : a ≤ 1048576) (hfin : a_1.length ≤ 9223372036854775807) : Ev (fun k => laws_szChan.f a_0 a_1 a_2 a) (left? (a_1.length) a) := by
  simp only [laws_szChan.f]
  refine Ev.bind (szIntS_ev a_1 a (by omega) (by omega) hfin) ?_
  by_cases c0 : ((a_1.length : Nat) : Int) ≤ a
  case neg => rw [left?_no c0];(try rw [left?_no (by omega)]);exact Ev.ite_pos (by omega) (Ev.now _)
  rw [left?_yes c0]
  refine Ev.ite_neg (by omega) ?_
  (try rw [left?_yes (by omega)])
  exact Ev.val (by omega) (Ev.now _)
theorem szChanS_ev (xs : (List S186)) (a : Int) (h0 : 0 ≤ a) (hB : a ≤ 1048576) (hfin : (xs.length ≤ 9223372036854775807 ∧ ∀ y ∈ xs,y.f1.length ≤ 9223372036854775807)) : Ev (fun k => laws_szChanS.f k xs a) (left? (xs.length + total wlChan xs) a) := by
  obtain ⟨hl,hfin⟩ := hfin
  have rd_e : ∀ (j : Nat) (hj : j < xs.length),rd_T186 xs (j : Int) = xs[j] := fun j hj => by simp [rd_T186,List.getD_eq_getElem?_getD,hj]
  by_cases h : (xs.length : Int) ≤ a
  · have key := sz_loop (L := fun j a k => laws_szChanS.l0 k xs a (j : Int)) xs wlChan 1048576 (fun a => Ev.one fun k => by simp only [laws_szChanS.l0];rw [if_neg (by omega)])
      (fun j hj a hB hw r ih => by
        have h0 : 0 ≤ a := by omega
        have hw' : ((xs[j].f1.length : Nat) : Int) ≤ a := hw
        refine Ev.step (fun k => by simp only [laws_szChanS.l0];rw [if_pos (by omega),if_pos (by omega),rd_e j hj]) (Ev.bind (szChan_ev (xs[j].f0) (xs[j].f1) (xs[j].f2) a h0 hB (hfin xs[j] (List.getElem_mem hj))) ?_)
        rw [left?_yes hw',wrapS hj hl]
        exact Ev.ite_neg (by omega) ih)
      (fun j hj a h0 hB hw => by
        have hw' : ¬ ((xs[j].f1.length : Nat) : Int) ≤ a := by have : a < (wlChan xs[j] : Int) := hw;intro c;exact absurd (show (wlChan xs[j] : Int) ≤ a from c) (by omega)
        refine Ev.step (fun k => by simp only [laws_szChanS.l0];rw [if_pos (by omega),if_pos (by omega),rd_e j hj]) (Ev.bind (szChan_ev (xs[j].f0) (xs[j].f1) (xs[j].f2) a h0 hB (hfin xs[j] (List.getElem_mem hj))) ?_)
        rw [left?_no hw']
        exact Ev.ite_pos (by omega) (Ev.now _)) (a - (xs.length : Int)) (by omega) (by omega)
    rw [left?_add h] at key
    refine Ev.congr (fun k => ?_) key
    unfold laws_szChanS.f
    rw [wrap_in (by omega) (by omega),if_neg (by omega)]
    rfl
  · refine Ev.all fun k => ?_
    unfold laws_szChanS.f
    rw [wrap_in (by omega) (by omega),if_pos (by omega),left?_no (by omega)]
theorem szNoteS_ev (l : (List S190)) (a : Int) (h0 : 0 ≤ a) (hB : a ≤ 1048576) (hl : l.length ≤ 9223372036854775807) : Ev (fun k => laws_szNoteS.f l a) (left? l.length a) := by
  refine Ev.all fun k => ?_
  unfold laws_szNoteS.f left?
  rw [wrap_in (by omega) (by omega)]
  by_cases h : (l.length : Int) ≤ a
  · rw [if_neg (by omega),if_pos h]
  · rw [if_pos (by omega),if_neg h]
theorem szSource_ev (a_0 : (List S184)) (a_1 : (List S186)) (a_2 : (List S190)) (a : Int) (h0 : 0 ≤ a) (hB : a ≤ 1048576) (hfin : ((a_0.length ≤ 9223372036854775807 ∧ ∀ y ∈ a_0,y.f1.length ≤ 9223372036854775807) ∧ (a_1.length ≤ 9223372036854775807 ∧ ∀ y ∈ a_1,y.f1.length ≤ 9223372036854775807) ∧ a_2.length ≤ 9223372036854775807)) : Ev (fun k => laws_szSource.f k a_0 a_1 a_2 a) (left? ((a_0.length + total wlThread a_0) + ((a_1.length + total wlChan a_1) + (a_2.length))) a) := by
  obtain ⟨h0_,h1_,h2_⟩ := hfin
  simp only [laws_szSource.f]
  refine Ev.bind (szThreadS_ev a_0 a (by omega) (by omega) h0_) ?_
  by_cases c0 : (((a_0.length + total wlThread a_0) : Nat) : Int) ≤ a
  case neg => rw [left?_no c0];(try rw [left?_no (by omega)]);exact Ev.ite_pos (by omega) (Ev.now _)
  rw [left?_yes c0]
  refine Ev.ite_neg (by omega) ?_
  refine Ev.bind (szChanS_ev a_1 (a - (((a_0.length + total wlThread a_0) : Nat) : Int)) (by omega) (by omega) h1_) ?_
  by_cases c1 : (((a_1.length + total wlChan a_1) : Nat) : Int) ≤ (a - (((a_0.length + total wlThread a_0) : Nat) : Int))
  case neg => rw [left?_no c1];(try rw [left?_no (by omega)]);exact Ev.ite_pos (by omega) (Ev.now _)
  rw [left?_yes c1]
  refine Ev.ite_neg (by omega) ?_
  refine Ev.bind (szNoteS_ev a_2 ((a - (((a_0.length + total wlThread a_0) : Nat) : Int)) - (((a_1.length + total wlChan a_1) : Nat) : Int)) (by omega) (by omega) h2_) ?_
  by_cases c2 : ((a_2.length : Nat) : Int) ≤ ((a - (((a_0.length + total wlThread a_0) : Nat) : Int)) - (((a_1.length + total wlChan a_1) : Nat) : Int))
  case neg => rw [left?_no c2];(try rw [left?_no (by omega)]);exact Ev.ite_pos (by omega) (Ev.now _)
  rw [left?_yes c2]
  refine Ev.ite_neg (by omega) ?_
  (try rw [left?_yes (by omega)])
  exact Ev.val (by omega) (Ev.now _)
theorem toThread_ev (a_0 : Int) (a_1 : (List Int)) (a_2 : Int) (h : a_1.length ≤ 1048576) : Ev (fun k => laws_toThread.f k a_0 a_1 a_2) (a_0,a_1,a_2) := by
  simp only [laws_toThread.f]
  refine Ev.bind (toIntS_ev a_1 (by omega)) ?_
  try simp only []
  exact Ev.now _
theorem toThreadS_ev (xs : (List S184)) (h : (xs.length + total wlThread xs) ≤ 1048576) : Ev (fun k => laws_toThreadS.f k xs) (xs.map cvThread) := by
  have rd_e : ∀ (j : Nat) (hj : j < xs.length),rd_T184 xs (j : Int) = xs[j] := fun j hj => by simp [rd_T184,List.getD_eq_getElem?_getD,hj]
  have key := to_loop (L := fun j ys k => laws_toThreadS.l0 k xs ys (j : Int)) xs cvThread z107 (fun ys _ => Ev.one fun k => by simp only [laws_toThreadS.l0];rw [if_neg (by omega)])
    (fun j hj ys hy r ih => by
      refine Ev.step (fun k => by simp only [laws_toThreadS.l0];rw [if_pos (by omega),if_pos (by omega),rd_e j hj]) (Ev.bind (toThread_ev (xs[j].f0) (xs[j].f1) (xs[j].f2) (by have := total_mem wlThread (List.getElem_mem hj);have h2 : xs[j].f1.length = wlThread xs[j] := rfl;omega)) ?_)
      refine Ev.ite_pos (by omega) ?_
      rw [wrapS hj (by omega),Int.toNat_natCast]
      exact ih)
  refine Ev.congr (fun k => ?_) key
  unfold laws_toThreadS.f
  rw [if_pos (by omega),if_pos (by simp;omega)]
  simp only [Int.toNat_natCast]
  rfl
theorem toChan_ev (a_0 : Int) (a_1 : (List Int)) (a_2 : Bool) (h : a_1.length ≤ 1048576) : Ev (fun k => laws_toChan.f k a_0 a_1 a_2) (a_0,a_1,a_2) := by
  simp only [laws_toChan.f]
  refine Ev.bind (toIntS_ev a_1 (by omega)) ?_
  try simp only []
  exact Ev.now _
theorem toChanS_ev (xs : (List S186)) (h : (xs.length + total wlChan xs) ≤ 1048576) : Ev (fun k => laws_toChanS.f k xs) (xs.map cvChan) := by
  have rd_e : ∀ (j : Nat) (hj : j < xs.length),rd_T186 xs (j : Int) = xs[j] := fun j hj => by simp [rd_T186,List.getD_eq_getElem?_getD,hj]
  have key := to_loop (L := fun j ys k => laws_toChanS.l0 k xs ys (j : Int)) xs cvChan z94 (fun ys _ => Ev.one fun k => by simp only [laws_toChanS.l0];rw [if_neg (by omega)])
    (fun j hj ys hy r ih => by
      refine Ev.step (fun k => by simp only [laws_toChanS.l0];rw [if_pos (by omega),if_pos (by omega),rd_e j hj]) (Ev.bind (toChan_ev (xs[j].f0) (xs[j].f1) (xs[j].f2) (by have := total_mem wlChan (List.getElem_mem hj);have h2 : xs[j].f1.length = wlChan xs[j] := rfl;omega)) ?_)
      refine Ev.ite_pos (by omega) ?_
      rw [wrapS hj (by omega),Int.toNat_natCast]
      exact ih)
  refine Ev.congr (fun k => ?_) key
  unfold laws_toChanS.f
  rw [if_pos (by omega),if_pos (by simp;omega)]
  simp only [Int.toNat_natCast]
  rfl
theorem toNote_ev (a_0 : Int) (a_1 : Int)  : Ev (fun k => laws_toNote.f a_0 a_1) (a_0,a_1) := by
  exact Ev.all fun k => rfl
theorem toNoteS_ev (xs : (List S190)) (h : xs.length ≤ 1048576) : Ev (fun k => laws_toNoteS.f k xs) (xs.map cvNote) := by
  have rd_e : ∀ (j : Nat) (hj : j < xs.length),rd_T190 xs (j : Int) = xs[j] := fun j hj => by simp [rd_T190,List.getD_eq_getElem?_getD,hj]
  have key := to_loop (L := fun j ys k => laws_toNoteS.l0 k xs ys (j : Int)) xs cvNote z35 (fun ys _ => Ev.one fun k => by simp only [laws_toNoteS.l0];rw [if_neg (by omega)])
    (fun j hj ys hy r ih => by
      refine Ev.step (fun k => by simp only [laws_toNoteS.l0];rw [if_pos (by omega),if_pos (by omega),rd_e j hj]) (Ev.bind (toNote_ev (xs[j].f0) (xs[j].f1) ) ?_)
      refine Ev.ite_pos (by omega) ?_
      rw [wrapS hj (by omega),Int.toNat_natCast]
      exact ih)
  refine Ev.congr (fun k => ?_) key
  unfold laws_toNoteS.f
  rw [if_pos (by omega),if_pos (by simp;omega)]
  simp only [Int.toNat_natCast]
  rfl
theorem toSource_ev (a_0 : (List S184)) (a_1 : (List S186)) (a_2 : (List S190)) (h0 : (a_0.length + total wlThread a_0) ≤ 1048576) (h1 : (a_1.length + total wlChan a_1) ≤ 1048576) (h2 : a_2.length ≤ 1048576) : Ev (fun k => laws_toSource.f k a_0 a_1 a_2) ((a_0.map cvThread),(a_1.map cvChan),(a_2.map cvNote)) := by
  simp only [laws_toSource.f]
  refine Ev.bind (toThreadS_ev a_0 h0) ?_
  try simp only []
  refine Ev.bind (toChanS_ev a_1 h1) ?_
  try simp only []
  refine Ev.bind (toNoteS_ev a_2 h2) ?_
  try simp only []
  exact Ev.now _
theorem eqThread_self (a_0 : Int) (a_1 : (List Int)) (a_2 : Int) (h : a_1.length ≤ 1048576) : Ev (fun k => laws_eqThread.f k a_0 a_1 a_2 a_0 a_1 a_2) true := by
  simp only [laws_eqThread.f,eq_self,if_true,bne_self_eq_false,Bool.false_eq_true,if_false]
  refine Ev.bind (eqIntS_self a_1 (by omega)) ?_
  try simp only [eq_self,if_true,bne_self_eq_false,Bool.false_eq_true,if_false]
  exact Ev.now _
theorem eqThreadS_self (xs : (List S107)) (h : (xs.length + total wiThread xs) ≤ 1048576) : Ev (fun k => laws_eqThreadS.f k xs xs) true := by
  have rd_e : ∀ (j : Nat) (hj : j < xs.length),rd_T107 xs (j : Int) = xs[j] := fun j hj => by simp [rd_T107,List.getD_eq_getElem?_getD,hj]
  have key := yes_loop (L := fun j k => laws_eqThreadS.l0 k xs xs (j : Int)) xs.length true (Ev.one fun k => by simp only [laws_eqThreadS.l0];rw [if_neg (by omega)])
    (fun j hj ih => by
      refine Ev.step (fun k => by simp only [laws_eqThreadS.l0];rw [if_pos (by omega),if_pos (by omega),if_pos (by omega),rd_e j hj]) (Ev.bind (eqThread_self (xs[j].f0) (xs[j].f1) (xs[j].f2) (by have := total_mem wiThread (List.getElem_mem hj);have h2 : xs[j].f1.length = wiThread xs[j] := rfl;omega)) ?_)
      refine Ev.ite_pos rfl ?_
      rw [wrapS hj (by omega)]
      exact ih)
  refine Ev.congr (fun k => ?_) key
  unfold laws_eqThreadS.f
  rw [if_pos rfl]
  rfl
theorem eqChan_self (a_0 : Int) (a_1 : (List Int)) (a_2 : Bool) (h : a_1.length ≤ 1048576) : Ev (fun k => laws_eqChan.f k a_0 a_1 a_2 a_0 a_1 a_2) true := by
  simp only [laws_eqChan.f,eq_self,if_true,bne_self_eq_false,Bool.false_eq_true,if_false]
  refine Ev.bind (eqIntS_self a_1 (by omega)) ?_
  try simp only [eq_self,if_true,bne_self_eq_false,Bool.false_eq_true,if_false]
  exact Ev.now _
theorem eqChanS_self (xs : (List S94)) (h : (xs.length + total wiChan xs) ≤ 1048576) : Ev (fun k => laws_eqChanS.f k xs xs) true := by
  have rd_e : ∀ (j : Nat) (hj : j < xs.length),rd_T94 xs (j : Int) = xs[j] := fun j hj => by simp [rd_T94,List.getD_eq_getElem?_getD,hj]
  have key := yes_loop (L := fun j k => laws_eqChanS.l0 k xs xs (j : Int)) xs.length true (Ev.one fun k => by simp only [laws_eqChanS.l0];rw [if_neg (by omega)])
    (fun j hj ih => by
      refine Ev.step (fun k => by simp only [laws_eqChanS.l0];rw [if_pos (by omega),if_pos (by omega),if_pos (by omega),rd_e j hj]) (Ev.bind (eqChan_self (xs[j].f0) (xs[j].f1) (xs[j].f2) (by have := total_mem wiChan (List.getElem_mem hj);have h2 : xs[j].f1.length = wiChan xs[j] := rfl;omega)) ?_)
      refine Ev.ite_pos rfl ?_
      rw [wrapS hj (by omega)]
      exact ih)
  refine Ev.congr (fun k => ?_) key
  unfold laws_eqChanS.f
  rw [if_pos rfl]
  rfl
theorem eqNote_self (a_0 : Int) (a_1 : Int)  : Ev (fun k => laws_eqNote.f a_0 a_1 a_0 a_1) true := by
  exact Ev.all fun k => by simp [laws_eqNote.f]
theorem eqNoteS_self (xs : (List S35)) (h : xs.length ≤ 1048576) : Ev (fun k => laws_eqNoteS.f k xs xs) true := by
  have rd_e : ∀ (j : Nat) (hj : j < xs.length),rd_T35 xs (j : Int) = xs[j] := fun j hj => by simp [rd_T35,List.getD_eq_getElem?_getD,hj]
  have key := yes_loop (L := fun j k => laws_eqNoteS.l0 k xs xs (j : Int)) xs.length true (Ev.one fun k => by simp only [laws_eqNoteS.l0];rw [if_neg (by omega)])
    (fun j hj ih => by
      refine Ev.step (fun k => by simp only [laws_eqNoteS.l0];rw [if_pos (by omega),if_pos (by omega),if_pos (by omega),rd_e j hj]) (Ev.bind (eqNote_self (xs[j].f0) (xs[j].f1) ) ?_)
      refine Ev.ite_pos rfl ?_
      rw [wrapS hj (by omega)]
      exact ih)
  refine Ev.congr (fun k => ?_) key
  unfold laws_eqNoteS.f
  rw [if_pos rfl]
  rfl
theorem eqSource_self (a_0 : (List S107)) (a_1 : (List S94)) (a_2 : (List S35)) (h0 : (a_0.length + total wiThread a_0) ≤ 1048576) (h1 : (a_1.length + total wiChan a_1) ≤ 1048576) (h2 : a_2.length ≤ 1048576) : Ev (fun k => laws_eqSource.f k a_0 a_1 a_2 a_0 a_1 a_2) true := by
  simp only [laws_eqSource.f,eq_self,if_true,bne_self_eq_false,Bool.false_eq_true,if_false]
  refine Ev.bind (eqThreadS_self a_0 h0) ?_
  try simp only [eq_self,if_true,bne_self_eq_false,Bool.false_eq_true,if_false]
  refine Ev.bind (eqChanS_self a_1 h1) ?_
  try simp only [eq_self,if_true,bne_self_eq_false,Bool.false_eq_true,if_false]
  refine Ev.bind (eqNoteS_self a_2 h2) ?_
  try simp only [eq_self,if_true,bne_self_eq_false,Bool.false_eq_true,if_false]
  exact Ev.now _
theorem threads_eq (xs : List S184) (h : xs.length + total wlThread xs ≤ 1048576) : (xs.map cvThread).length + total wiThread (xs.map cvThread) ≤ 1048576 := by
  rw [List.length_map,total_map wlThread wiThread cvThread w_cvThread]
  exact h
theorem chans_eq (xs : List S186) (h : xs.length + total wlChan xs ≤ 1048576) : (xs.map cvChan).length + total wiChan (xs.map cvChan) ≤ 1048576 := by
  rw [List.length_map,total_map wlChan wiChan cvChan w_cvChan]
  exact h
def cvStep (x : S177) : S175 := ⟨x.f0,x.f1,x.f2,x.f3,x.f4⟩
def cvStepS (xs : (List S177)) : (List S175) := xs.map cvStep
def wlStepS (xs : (List S177)) : Nat := xs.length
def wiStepS (xs : (List S175)) : Nat := xs.length
theorem w_cvStepS (xs : (List S177)) : wiStepS (cvStepS xs) = wlStepS xs := by simp [wiStepS,wlStepS,cvStepS]
def wlCore (x : S194) : Nat := x.f1.length + x.f2.length
def wiCore (x : S123) : Nat := x.f1.length + x.f2.length
def cvCore (x : S194) : S123 := ⟨x.f0,x.f1,x.f2,x.f3⟩
theorem w_cvCore (x : S194) : wiCore (cvCore x) = wlCore x := rfl
theorem szStepS_ev (l : (List S177)) (a : Int) (h0 : 0 ≤ a) (hB : a ≤ 1048576) (hl : l.length ≤ 9223372036854775807) : Ev (fun k => laws_szStepS.f l a) (left? l.length a) := by
  refine Ev.all fun k => ?_
  unfold laws_szStepS.f left?
  rw [wrap_in (by omega) (by omega)]
  by_cases h : (l.length : Int) ≤ a
  · rw [if_neg (by omega),if_pos h]
  · rw [if_pos (by omega),if_neg h]
theorem szStepSS_ev (xs : (List (List S177))) (a : Int) (h0 : 0 ≤ a) (hB : a ≤ 1048576) (hfin : (xs.length ≤ 9223372036854775807 ∧ ∀ y ∈ xs,y.length ≤ 9223372036854775807)) : Ev (fun k => laws_szStepSS.f k xs a) (left? (xs.length + total wlStepS xs) a) := by
  obtain ⟨hl,hfin⟩ := hfin
  have rd_e : ∀ (j : Nat) (hj : j < xs.length),rd_L19 xs (j : Int) = xs[j] := fun j hj => by simp [rd_L19,List.getD_eq_getElem?_getD,hj]
  by_cases h : (xs.length : Int) ≤ a
  · have key := sz_loop (L := fun j a k => laws_szStepSS.l0 k xs a (j : Int)) xs wlStepS 1048576 (fun a => Ev.one fun k => by simp only [laws_szStepSS.l0];rw [if_neg (by omega)])
      (fun j hj a hB hw r ih => by
        have h0 : 0 ≤ a := by omega
        have hw' : ((xs[j].length : Nat) : Int) ≤ a := hw
        refine Ev.step (fun k => by simp only [laws_szStepSS.l0];rw [if_pos (by omega),if_pos (by omega),rd_e j hj]) (Ev.bind (szStepS_ev xs[j] a h0 hB (hfin xs[j] (List.getElem_mem hj))) ?_)
        rw [left?_yes hw',wrapS hj hl]
        exact Ev.ite_neg (by omega) ih)
      (fun j hj a h0 hB hw => by
        have hw' : ¬ ((xs[j].length : Nat) : Int) ≤ a := by have : a < (wlStepS xs[j] : Int) := hw;intro c;exact absurd (show (wlStepS xs[j] : Int) ≤ a from c) (by omega)
        refine Ev.step (fun k => by simp only [laws_szStepSS.l0];rw [if_pos (by omega),if_pos (by omega),rd_e j hj]) (Ev.bind (szStepS_ev xs[j] a h0 hB (hfin xs[j] (List.getElem_mem hj))) ?_)
        rw [left?_no hw']
        exact Ev.ite_pos (by omega) (Ev.now _)) (a - (xs.length : Int)) (by omega) (by omega)
    rw [left?_add h] at key
    refine Ev.congr (fun k => ?_) key
    unfold laws_szStepSS.f
    rw [wrap_in (by omega) (by omega),if_neg (by omega)]
    rfl
  · refine Ev.all fun k => ?_
    unfold laws_szStepSS.f
    rw [wrap_in (by omega) (by omega),if_pos (by omega),left?_no (by omega)]
theorem szCore_ev (a_0 : Int) (a_1 : (List Int)) (a_2 : (List Int)) (a_3 : Int) (a : Int) (h0 : 0 ≤ a) (hB : a ≤ 1048576) (hfin : (a_1.length ≤ 9223372036854775807 ∧ a_2.length ≤ 9223372036854775807)) : Ev (fun k => laws_szCore.f a_0 a_1 a_2 a_3 a) (left? (a_1.length + (a_2.length)) a) := by
  obtain ⟨h0_,h1_⟩ := hfin
  simp only [laws_szCore.f]
  refine Ev.bind (szIntS_ev a_1 a (by omega) (by omega) h0_) ?_
  by_cases c0 : ((a_1.length : Nat) : Int) ≤ a
  case neg => rw [left?_no c0];(try rw [left?_no (by omega)]);exact Ev.ite_pos (by omega) (Ev.now _)
  rw [left?_yes c0]
  refine Ev.ite_neg (by omega) ?_
  refine Ev.bind (szIntS_ev a_2 (a - ((a_1.length : Nat) : Int)) (by omega) (by omega) h1_) ?_
  by_cases c1 : ((a_2.length : Nat) : Int) ≤ (a - ((a_1.length : Nat) : Int))
  case neg => rw [left?_no c1];(try rw [left?_no (by omega)]);exact Ev.ite_pos (by omega) (Ev.now _)
  rw [left?_yes c1]
  refine Ev.ite_neg (by omega) ?_
  (try rw [left?_yes (by omega)])
  exact Ev.val (by omega) (Ev.now _)
theorem szCoreS_ev (xs : (List S194)) (a : Int) (h0 : 0 ≤ a) (hB : a ≤ 1048576) (hfin : (xs.length ≤ 9223372036854775807 ∧ ∀ y ∈ xs,(y.f1.length ≤ 9223372036854775807 ∧ y.f2.length ≤ 9223372036854775807))) : Ev (fun k => laws_szCoreS.f k xs a) (left? (xs.length + total wlCore xs) a) := by
  obtain ⟨hl,hfin⟩ := hfin
  have rd_e : ∀ (j : Nat) (hj : j < xs.length),rd_T194 xs (j : Int) = xs[j] := fun j hj => by simp [rd_T194,List.getD_eq_getElem?_getD,hj]
  by_cases h : (xs.length : Int) ≤ a
  · have key := sz_loop (L := fun j a k => laws_szCoreS.l0 k xs a (j : Int)) xs wlCore 1048576 (fun a => Ev.one fun k => by simp only [laws_szCoreS.l0];rw [if_neg (by omega)])
      (fun j hj a hB hw r ih => by
        have h0 : 0 ≤ a := by omega
        have hw' : ((xs[j].f1.length + xs[j].f2.length : Nat) : Int) ≤ a := hw
        refine Ev.step (fun k => by simp only [laws_szCoreS.l0];rw [if_pos (by omega),if_pos (by omega),rd_e j hj]) (Ev.bind (szCore_ev (xs[j].f0) (xs[j].f1) (xs[j].f2) (xs[j].f3) a h0 hB (hfin xs[j] (List.getElem_mem hj))) ?_)
        rw [left?_yes hw',wrapS hj hl]
        exact Ev.ite_neg (by omega) ih)
      (fun j hj a h0 hB hw => by
        have hw' : ¬ ((xs[j].f1.length + xs[j].f2.length : Nat) : Int) ≤ a := by have : a < (wlCore xs[j] : Int) := hw;intro c;exact absurd (show (wlCore xs[j] : Int) ≤ a from c) (by omega)
        refine Ev.step (fun k => by simp only [laws_szCoreS.l0];rw [if_pos (by omega),if_pos (by omega),rd_e j hj]) (Ev.bind (szCore_ev (xs[j].f0) (xs[j].f1) (xs[j].f2) (xs[j].f3) a h0 hB (hfin xs[j] (List.getElem_mem hj))) ?_)
        rw [left?_no hw']
        exact Ev.ite_pos (by omega) (Ev.now _)) (a - (xs.length : Int)) (by omega) (by omega)
    rw [left?_add h] at key
    refine Ev.congr (fun k => ?_) key
    unfold laws_szCoreS.f
    rw [wrap_in (by omega) (by omega),if_neg (by omega)]
    rfl
  · refine Ev.all fun k => ?_
    unfold laws_szCoreS.f
    rw [wrap_in (by omega) (by omega),if_pos (by omega),left?_no (by omega)]
theorem szMachine_ev (a_0 : (List (List S177))) (a_1 : (List S194)) (a_2_0 : (List (List S238))) (a_3 : (List S190)) (a : Int) (h0 : 0 ≤ a) (hB : a ≤ 1048576) (hfin : ((a_0.length ≤ 9223372036854775807 ∧ ∀ y ∈ a_0,y.length ≤ 9223372036854775807) ∧ (a_1.length ≤ 9223372036854775807 ∧ ∀ y ∈ a_1,(y.f1.length ≤ 9223372036854775807 ∧ y.f2.length ≤ 9223372036854775807)) ∧ (a_2_0.length ≤ 9223372036854775807 ∧ ∀ y ∈ a_2_0,(y.length ≤ 9223372036854775807 ∧ ∀ y' ∈ y,y'.f1.length ≤ 9223372036854775807)) ∧ a_3.length ≤ 9223372036854775807)) : Ev (fun k => laws_szMachine.f k a_0 a_1 a_2_0 a_3 a) (left? ((a_0.length + total wlStepS a_0) + ((a_1.length + total wlCore a_1) + ((a_2_0.length + total wlWriteS a_2_0) + (a_3.length)))) a) := by
  obtain ⟨h0_,h1_,h2_,h3_⟩ := hfin
  simp only [laws_szMachine.f]
  refine Ev.bind (szStepSS_ev a_0 a (by omega) (by omega) h0_) ?_
  by_cases c0 : (((a_0.length + total wlStepS a_0) : Nat) : Int) ≤ a
  case neg => rw [left?_no c0];(try rw [left?_no (by omega)]);exact Ev.ite_pos (by omega) (Ev.now _)
  rw [left?_yes c0]
  refine Ev.ite_neg (by omega) ?_
  refine Ev.bind (szCoreS_ev a_1 (a - (((a_0.length + total wlStepS a_0) : Nat) : Int)) (by omega) (by omega) h1_) ?_
  by_cases c1 : (((a_1.length + total wlCore a_1) : Nat) : Int) ≤ (a - (((a_0.length + total wlStepS a_0) : Nat) : Int))
  case neg => rw [left?_no c1];(try rw [left?_no (by omega)]);exact Ev.ite_pos (by omega) (Ev.now _)
  rw [left?_yes c1]
  refine Ev.ite_neg (by omega) ?_
  refine Ev.bind (szMemory_ev a_2_0 ((a - (((a_0.length + total wlStepS a_0) : Nat) : Int)) - (((a_1.length + total wlCore a_1) : Nat) : Int)) (by omega) (by omega) h2_) ?_
  by_cases c2 : (((a_2_0.length + total wlWriteS a_2_0) : Nat) : Int) ≤ ((a - (((a_0.length + total wlStepS a_0) : Nat) : Int)) - (((a_1.length + total wlCore a_1) : Nat) : Int))
  case neg => rw [left?_no c2];(try rw [left?_no (by omega)]);exact Ev.ite_pos (by omega) (Ev.now _)
  rw [left?_yes c2]
  refine Ev.ite_neg (by omega) ?_
  refine Ev.bind (szNoteS_ev a_3 (((a - (((a_0.length + total wlStepS a_0) : Nat) : Int)) - (((a_1.length + total wlCore a_1) : Nat) : Int)) - (((a_2_0.length + total wlWriteS a_2_0) : Nat) : Int)) (by omega) (by omega) h3_) ?_
  by_cases c3 : ((a_3.length : Nat) : Int) ≤ (((a - (((a_0.length + total wlStepS a_0) : Nat) : Int)) - (((a_1.length + total wlCore a_1) : Nat) : Int)) - (((a_2_0.length + total wlWriteS a_2_0) : Nat) : Int))
  case neg => rw [left?_no c3];(try rw [left?_no (by omega)]);exact Ev.ite_pos (by omega) (Ev.now _)
  rw [left?_yes c3]
  refine Ev.ite_neg (by omega) ?_
  (try rw [left?_yes (by omega)])
  exact Ev.val (by omega) (Ev.now _)
theorem toStep_ev (a_0 : Int) (a_1 : Int) (a_2 : Int) (a_3 : Int) (a_4 : Int)  : Ev (fun k => laws_toStep.f a_0 a_1 a_2 a_3 a_4) (a_0,a_1,a_2,a_3,a_4) := by
  exact Ev.all fun k => rfl
theorem toStepS_ev (xs : (List S177)) (h : xs.length ≤ 1048576) : Ev (fun k => laws_toStepS.f k xs) (xs.map cvStep) := by
  have rd_e : ∀ (j : Nat) (hj : j < xs.length),rd_T177 xs (j : Int) = xs[j] := fun j hj => by simp [rd_T177,List.getD_eq_getElem?_getD,hj]
  have key := to_loop (L := fun j ys k => laws_toStepS.l0 k xs ys (j : Int)) xs cvStep z175 (fun ys _ => Ev.one fun k => by simp only [laws_toStepS.l0];rw [if_neg (by omega)])
    (fun j hj ys hy r ih => by
      refine Ev.step (fun k => by simp only [laws_toStepS.l0];rw [if_pos (by omega),if_pos (by omega),rd_e j hj]) (Ev.bind (toStep_ev (xs[j].f0) (xs[j].f1) (xs[j].f2) (xs[j].f3) (xs[j].f4) ) ?_)
      refine Ev.ite_pos (by omega) ?_
      rw [wrapS hj (by omega),Int.toNat_natCast]
      exact ih)
  refine Ev.congr (fun k => ?_) key
  unfold laws_toStepS.f
  rw [if_pos (by omega),if_pos (by simp;omega)]
  simp only [Int.toNat_natCast]
  rfl
theorem toStepSS_ev (xs : (List (List S177))) (h : (xs.length + total wlStepS xs) ≤ 1048576) : Ev (fun k => laws_toStepSS.f k xs) (xs.map cvStepS) := by
  have rd_e : ∀ (j : Nat) (hj : j < xs.length),rd_L19 xs (j : Int) = xs[j] := fun j hj => by simp [rd_L19,List.getD_eq_getElem?_getD,hj]
  have key := to_loop (L := fun j ys k => laws_toStepSS.l0 k xs ys (j : Int)) xs cvStepS [] (fun ys _ => Ev.one fun k => by simp only [laws_toStepSS.l0];rw [if_neg (by omega)])
    (fun j hj ys hy r ih => by
      refine Ev.step (fun k => by simp only [laws_toStepSS.l0];rw [if_pos (by omega),if_pos (by omega),rd_e j hj]) (Ev.bind (toStepS_ev xs[j] (by have := total_mem wlStepS (List.getElem_mem hj);have h2 : xs[j].length = wlStepS xs[j] := rfl;omega)) ?_)
      refine Ev.ite_pos (by omega) ?_
      rw [wrapS hj (by omega),Int.toNat_natCast]
      exact ih)
  refine Ev.congr (fun k => ?_) key
  unfold laws_toStepSS.f
  rw [if_pos (by omega),if_pos (by simp;omega)]
  simp only [Int.toNat_natCast]
  rfl
theorem toCore_ev (a_0 : Int) (a_1 : (List Int)) (a_2 : (List Int)) (a_3 : Int) (h0 : a_1.length ≤ 1048576) (h1 : a_2.length ≤ 1048576) : Ev (fun k => laws_toCore.f k a_0 a_1 a_2 a_3) (a_0,a_1,a_2,a_3) := by
  simp only [laws_toCore.f]
  refine Ev.bind (toIntS_ev a_1 (by omega)) ?_
  try simp only []
  refine Ev.bind (toIntS_ev a_2 (by omega)) ?_
  try simp only []
  exact Ev.now _
theorem toCoreS_ev (xs : (List S194)) (h : (xs.length + total wlCore xs) ≤ 1048576) : Ev (fun k => laws_toCoreS.f k xs) (xs.map cvCore) := by
  have rd_e : ∀ (j : Nat) (hj : j < xs.length),rd_T194 xs (j : Int) = xs[j] := fun j hj => by simp [rd_T194,List.getD_eq_getElem?_getD,hj]
  have key := to_loop (L := fun j ys k => laws_toCoreS.l0 k xs ys (j : Int)) xs cvCore z123 (fun ys _ => Ev.one fun k => by simp only [laws_toCoreS.l0];rw [if_neg (by omega)])
    (fun j hj ys hy r ih => by
      refine Ev.step (fun k => by simp only [laws_toCoreS.l0];rw [if_pos (by omega),if_pos (by omega),rd_e j hj]) (Ev.bind (toCore_ev (xs[j].f0) (xs[j].f1) (xs[j].f2) (xs[j].f3) (by have := total_mem wlCore (List.getElem_mem hj);have h2 : xs[j].f1.length + xs[j].f2.length = wlCore xs[j] := rfl;omega) (by have := total_mem wlCore (List.getElem_mem hj);have h2 : xs[j].f1.length + xs[j].f2.length = wlCore xs[j] := rfl;omega)) ?_)
      refine Ev.ite_pos (by omega) ?_
      rw [wrapS hj (by omega),Int.toNat_natCast]
      exact ih)
  refine Ev.congr (fun k => ?_) key
  unfold laws_toCoreS.f
  rw [if_pos (by omega),if_pos (by simp;omega)]
  simp only [Int.toNat_natCast]
  rfl
theorem toMachine_ev (a_0 : (List (List S177))) (a_1 : (List S194)) (a_2_0 : (List (List S238))) (a_3 : (List S190)) (h0 : (a_0.length + total wlStepS a_0) ≤ 1048576) (h1 : (a_1.length + total wlCore a_1) ≤ 1048576) (h2 : (a_2_0.length + total wlWriteS a_2_0) ≤ 1048576) (h3 : a_3.length ≤ 1048576) : Ev (fun k => laws_toMachine.f k a_0 a_1 a_2_0 a_3) ((a_0.map cvStepS),(a_1.map cvCore),(a_2_0.map cvWriteS),(a_3.map cvNote)) := by
  simp only [laws_toMachine.f]
  refine Ev.bind (toStepSS_ev a_0 h0) ?_
  try simp only []
  refine Ev.bind (toCoreS_ev a_1 h1) ?_
  try simp only []
  refine Ev.bind (toMemory_ev a_2_0 h2) ?_
  try simp only []
  refine Ev.bind (toNoteS_ev a_3 h3) ?_
  try simp only []
  exact Ev.now _
theorem eqStep_self (a_0 : Int) (a_1 : Int) (a_2 : Int) (a_3 : Int) (a_4 : Int)  : Ev (fun k => laws_eqStep.f a_0 a_1 a_2 a_3 a_4 a_0 a_1 a_2 a_3 a_4) true := by
  exact Ev.all fun k => by simp [laws_eqStep.f]
theorem eqStepS_self (xs : (List S175)) (h : xs.length ≤ 1048576) : Ev (fun k => laws_eqStepS.f k xs xs) true := by
  have rd_e : ∀ (j : Nat) (hj : j < xs.length),rd_T175 xs (j : Int) = xs[j] := fun j hj => by simp [rd_T175,List.getD_eq_getElem?_getD,hj]
  have key := yes_loop (L := fun j k => laws_eqStepS.l0 k xs xs (j : Int)) xs.length true (Ev.one fun k => by simp only [laws_eqStepS.l0];rw [if_neg (by omega)])
    (fun j hj ih => by
      refine Ev.step (fun k => by simp only [laws_eqStepS.l0];rw [if_pos (by omega),if_pos (by omega),if_pos (by omega),rd_e j hj]) (Ev.bind (eqStep_self (xs[j].f0) (xs[j].f1) (xs[j].f2) (xs[j].f3) (xs[j].f4) ) ?_)
      refine Ev.ite_pos rfl ?_
      rw [wrapS hj (by omega)]
      exact ih)
  refine Ev.congr (fun k => ?_) key
  unfold laws_eqStepS.f
  rw [if_pos rfl]
  rfl
theorem eqStepSS_self (xs : (List (List S175))) (h : (xs.length + total wiStepS xs) ≤ 1048576) : Ev (fun k => laws_eqStepSS.f k xs xs) true := by
  have rd_e : ∀ (j : Nat) (hj : j < xs.length),rd_L11 xs (j : Int) = xs[j] := fun j hj => by simp [rd_L11,List.getD_eq_getElem?_getD,hj]
  have key := yes_loop (L := fun j k => laws_eqStepSS.l0 k xs xs (j : Int)) xs.length true (Ev.one fun k => by simp only [laws_eqStepSS.l0];rw [if_neg (by omega)])
    (fun j hj ih => by
      refine Ev.step (fun k => by simp only [laws_eqStepSS.l0];rw [if_pos (by omega),if_pos (by omega),if_pos (by omega),rd_e j hj]) (Ev.bind (eqStepS_self xs[j] (by have := total_mem wiStepS (List.getElem_mem hj);have h2 : xs[j].length = wiStepS xs[j] := rfl;omega)) ?_)
      refine Ev.ite_pos rfl ?_
      rw [wrapS hj (by omega)]
      exact ih)
  refine Ev.congr (fun k => ?_) key
  unfold laws_eqStepSS.f
  rw [if_pos rfl]
  rfl
theorem eqCore_self (a_0 : Int) (a_1 : (List Int)) (a_2 : (List Int)) (a_3 : Int) (h0 : a_1.length ≤ 1048576) (h1 : a_2.length ≤ 1048576) : Ev (fun k => laws_eqCore.f k a_0 a_1 a_2 a_3 a_0 a_1 a_2 a_3) true := by
  simp only [laws_eqCore.f,eq_self,if_true,bne_self_eq_false,Bool.false_eq_true,if_false]
  refine Ev.bind (eqIntS_self a_1 (by omega)) ?_
  try simp only [eq_self,if_true,bne_self_eq_false,Bool.false_eq_true,if_false]
  refine Ev.bind (eqIntS_self a_2 (by omega)) ?_
  try simp only [eq_self,if_true,bne_self_eq_false,Bool.false_eq_true,if_false]
  exact Ev.now _
theorem eqCoreS_self (xs : (List S123)) (h : (xs.length + total wiCore xs) ≤ 1048576) : Ev (fun k => laws_eqCoreS.f k xs xs) true := by
  have rd_e : ∀ (j : Nat) (hj : j < xs.length),rd_T123 xs (j : Int) = xs[j] := fun j hj => by simp [rd_T123,List.getD_eq_getElem?_getD,hj]
  have key := yes_loop (L := fun j k => laws_eqCoreS.l0 k xs xs (j : Int)) xs.length true (Ev.one fun k => by simp only [laws_eqCoreS.l0];rw [if_neg (by omega)])
    (fun j hj ih => by
      refine Ev.step (fun k => by simp only [laws_eqCoreS.l0];rw [if_pos (by omega),if_pos (by omega),if_pos (by omega),rd_e j hj]) (Ev.bind (eqCore_self (xs[j].f0) (xs[j].f1) (xs[j].f2) (xs[j].f3) (by have := total_mem wiCore (List.getElem_mem hj);have h2 : xs[j].f1.length + xs[j].f2.length = wiCore xs[j] := rfl;omega) (by have := total_mem wiCore (List.getElem_mem hj);have h2 : xs[j].f1.length + xs[j].f2.length = wiCore xs[j] := rfl;omega)) ?_)
      refine Ev.ite_pos rfl ?_
      rw [wrapS hj (by omega)]
      exact ih)
  refine Ev.congr (fun k => ?_) key
  unfold laws_eqCoreS.f
  rw [if_pos rfl]
  rfl
theorem eqMachine_self (a_0 : (List (List S175))) (a_1 : (List S123)) (a_2_0 : (List (List S170))) (a_3 : (List S35)) (h0 : (a_0.length + total wiStepS a_0) ≤ 1048576) (h1 : (a_1.length + total wiCore a_1) ≤ 1048576) (h2 : (a_2_0.length + total wiWriteS a_2_0) ≤ 1048576) (h3 : a_3.length ≤ 1048576) : Ev (fun k => laws_eqMachine.f k a_0 a_1 a_2_0 a_3 a_0 a_1 a_2_0 a_3) true := by
  simp only [laws_eqMachine.f,eq_self,if_true,bne_self_eq_false,Bool.false_eq_true,if_false]
  refine Ev.bind (eqStepSS_self a_0 h0) ?_
  try simp only [eq_self,if_true,bne_self_eq_false,Bool.false_eq_true,if_false]
  refine Ev.bind (eqCoreS_self a_1 h1) ?_
  try simp only [eq_self,if_true,bne_self_eq_false,Bool.false_eq_true,if_false]
  refine Ev.bind (eqMemory_self a_2_0 h2) ?_
  try simp only [eq_self,if_true,bne_self_eq_false,Bool.false_eq_true,if_false]
  refine Ev.bind (eqNoteS_self a_3 h3) ?_
  try simp only [eq_self,if_true,bne_self_eq_false,Bool.false_eq_true,if_false]
  exact Ev.now _
theorem codes_eq (xs : List (List S177)) (h : xs.length + total wlStepS xs ≤ 1048576) : (xs.map cvStepS).length + total wiStepS (xs.map cvStepS) ≤ 1048576 := by
  rw [List.length_map,total_map wlStepS wiStepS cvStepS w_cvStepS]
  exact h
theorem cores_eq (xs : List S194) (h : xs.length + total wlCore xs ≤ 1048576) : (xs.map cvCore).length + total wiCore (xs.map cvCore) ≤ 1048576 := by
  rw [List.length_map,total_map wlCore wiCore cvCore w_cvCore]
  exact h
def inn (a lo hi : Int) : Bool := decide (lo ≤ a ∧ a ≤ hi)
theorem spec_l1In_eq (a lo hi : Int) : spec_l1In.f a lo hi = some (inn a lo hi) := by
  unfold spec_l1In.f inn
  by_cases h : a ≥ lo
  · rw [if_pos h];congr 1;simp;omega
  · rw [if_neg h,decide_eq_false (by omega)]
theorem impl_within_eq (a lo hi : Int) : impl_within.f a lo hi = some (inn a lo hi) := by
  unfold impl_within.f inn
  by_cases h : a ≥ lo
  · rw [if_pos h];congr 1;simp;omega
  · rw [if_neg h,decide_eq_false (by omega)]
def viewIn (m : List (List S170)) (v : List Int) (i : Nat) : Bool := inn (v.getD i 0) 0 (((m.getD i []).length : Int) - 1)
def viewOk (m : List (List S170)) (v : List Int) : Bool := decide (v.length = m.length) && (List.range v.length).all (viewIn m v)
theorem rd_cell (m : List (List S170)) (j : Nat) : rd_L14 m (j : Int) = m.getD j [] := by simp [rd_L14]
theorem rd_int (v : List Int) (j : Nat) : rd v (j : Int) = v.getD j 0 := by simp [rd]
def Small (m : List (List S170)) : Prop := m.length ≤ 1048576 ∧ ∀ c ∈ m,c.length ≤ 1048576 ∧ ∀ w ∈ c,w.f1.length ≤ 1048576
theorem Small.at {m : List (List S170)} (h : Small m) (j : Nat) : (m.getD j []).length ≤ 1048576 := by
  rw [List.getD_eq_getElem?_getD]
  cases e : m[j]? with
  | none => simp
  | some c => exact (h.2 c (List.mem_of_getElem? e)).1
theorem range_get {n j : Nat} (h : j < (List.range n).length) : (List.range n)[j] = j := by simp
theorem spec_ViewOk_ev (m : List (List S170)) (v : List Int) (hm : Small m) (hv : v.length ≤ 1048576) : Ev (fun k => spec_ViewOk.f k m v) (viewOk m v) := by
  by_cases hl : v.length = m.length
  · have key := all_loop (L := fun j k => spec_ViewOk.l0 k v (j : Int) m) (List.range v.length) (viewIn m v) (b := true) (Ev.one fun k => by
        simp only [spec_ViewOk.l0]
        rw [if_neg (by simp)])
      (fun j hj hp r ih => by
        rw [List.length_range] at hj
        rw [range_get] at hp
        have h1 := hm.at j
        refine Ev.step (fun k => ?_) ih
        simp only [spec_ViewOk.l0]
        rw [if_pos (by omega),if_pos (by omega),if_pos (by omega),rd_int,rd_cell,wrap_in (by omega) (by omega),spec_l1In_eq,Option.bind_some,if_pos (show inn (v.getD j 0) 0 (((m.getD j []).length : Int) - 1) = true from hp),wrapS hj (by omega)])
      (fun j hj hp => by
        rw [List.length_range] at hj
        rw [range_get] at hp
        have h1 := hm.at j
        refine Ev.one fun k => ?_
        simp only [spec_ViewOk.l0]
        rw [if_pos (by omega),if_pos (by omega),if_pos (by omega),rd_int,rd_cell,wrap_in (by omega) (by omega),spec_l1In_eq,Option.bind_some,if_neg (show ¬ inn (v.getD j 0) 0 (((m.getD j []).length : Int) - 1) = true from fun e => by have e' : viewIn m v j = true := e;rw [hp] at e';cases e')])
    rw [Bool.and_true] at key
    refine Ev.congr (fun k => ?_) (Ev.val (by rw [viewOk,decide_eq_true hl,Bool.true_and]) key)
    unfold spec_ViewOk.f
    rw [if_pos (by omega)]
    rfl
  · refine Ev.all fun k => ?_
    unfold spec_ViewOk.f
    rw [if_neg (by omega),viewOk,decide_eq_false hl,Bool.false_and]
theorem impl_ViewOk_ev (m : List (List S170)) (v : List Int) (hm : Small m) (hv : v.length ≤ 1048576) : Ev (fun k => impl_ViewOk.f k m v) (viewOk m v) := by
  by_cases hl : v.length = m.length
  · have key := all_loop (L := fun j k => impl_ViewOk.l0 k v (v.length : Int) (j : Int) m) (List.range v.length) (viewIn m v) (b := true) (Ev.one fun k => by
        simp only [impl_ViewOk.l0]
        rw [if_neg (by simp)])
      (fun j hj hp r ih => by
        rw [List.length_range] at hj
        rw [range_get] at hp
        have h1 := hm.at j
        refine Ev.step (fun k => ?_) ih
        simp only [impl_ViewOk.l0]
        rw [if_pos (by omega),if_pos (by omega),if_pos (by omega),if_pos (by omega),rd_int,rd_cell,wrap_in (by omega) (by omega),impl_within_eq,Option.bind_some,if_pos (show inn (v.getD j 0) 0 (((m.getD j []).length : Int) - 1) = true from hp),wrapS hj (by omega)])
      (fun j hj hp => by
        rw [List.length_range] at hj
        rw [range_get] at hp
        have h1 := hm.at j
        refine Ev.one fun k => ?_
        simp only [impl_ViewOk.l0]
        rw [if_pos (by omega),if_pos (by omega),if_pos (by omega),if_pos (by omega),rd_int,rd_cell,wrap_in (by omega) (by omega),impl_within_eq,Option.bind_some,if_neg (show ¬ inn (v.getD j 0) 0 (((m.getD j []).length : Int) - 1) = true from fun e => by have e' : viewIn m v j = true := e;rw [hp] at e';cases e')])
    rw [Bool.and_true] at key
    refine Ev.congr (fun k => ?_) (Ev.val (by rw [viewOk,decide_eq_true hl,Bool.true_and]) key)
    unfold impl_ViewOk.f
    rw [if_pos (by omega)]
    rfl
  · refine Ev.all fun k => ?_
    unfold impl_ViewOk.f
    rw [if_neg (by omega),viewOk,decide_eq_false hl,Bool.false_and]
theorem small_of (xs : List (List S238)) (h : xs.length + total wlWriteS xs ≤ 1048576) : Small (xs.map cvWriteS) := by
  refine ⟨by simp;omega,fun c hc => ?_⟩
  obtain ⟨y,hy,rfl⟩ := List.mem_map.1 hc
  have h1 := total_mem wlWriteS hy
  have h2 : wlWriteS y = y.length + total wlWrite y := rfl
  refine ⟨by simp [cvWriteS];omega,fun w hw => ?_⟩
  obtain ⟨z,hz,rfl⟩ := List.mem_map.1 hw
  have h3 := total_mem wlWrite hz
  have h4 : wlWrite z = z.f1.length := rfl
  show z.f1.length ≤ 1048576
  omega
theorem eq_small (xs : List (List S238)) (h : xs.length + total wlWriteS xs ≤ 1048576) : (xs.map cvWriteS).length + total wiWriteS (xs.map cvWriteS) ≤ 1048576 := by
  rw [List.length_map,total_map wlWriteS wiWriteS cvWriteS w_cvWriteS]
  exact h
def cellIn (m : List (List S170)) (c : List S170) : Bool := inn (c.length : Int) 1 4000 && c.all (fun w => viewOk m w.f1)
def memOk (m : List (List S170)) : Bool := m.all (cellIn m) && decide (m.length = 24)
theorem rd_write (l : List S170) (j : Nat) (h : j < l.length) : rd_T170 l (j : Int) = l[j] := by simp [rd_T170,List.getD_eq_getElem?_getD,h]
theorem rd_cell' (m : List (List S170)) (j : Nat) (h : j < m.length) : rd_L14 m (j : Int) = m[j] := by simp [rd_L14,List.getD_eq_getElem?_getD,h]
theorem spec_MemoryOk_ev (m : List (List S170)) (hm : Small m) : Ev (fun k => spec_MemoryOk.f k m) (memOk m) := by
  have hl := hm.1
  by_cases h24 : m.length = 24
  case neg =>
    refine Ev.all fun k => ?_
    unfold spec_MemoryOk.f
    rw [if_neg (by omega),memOk,decide_eq_false h24,Bool.and_false]
  simp only [spec_MemoryOk.f]
  refine Ev.ite_pos (by omega) ?_
  refine all_loop (L := fun j k => spec_MemoryOk.l0 k (j : Int) m) m (cellIn m) ?_ (fun j hj hp r ih => ?_) (fun j hj hp => ?_)
  · refine Ev.one fun k => ?_
    simp only [spec_MemoryOk.l0]
    rw [if_neg (by omega),decide_eq_true h24]
  · have hc := hm.2 m[j] (List.getElem_mem hj)
    have h1 : inn (m[j].length : Int) 1 4000 = true := by unfold cellIn at hp;rw [Bool.and_eq_true] at hp;exact hp.1
    have h2 : m[j].all (fun w => viewOk m w.f1) = true := by unfold cellIn at hp;rw [Bool.and_eq_true] at hp;exact hp.2
    refine Ev.step (fun k => by simp only [spec_MemoryOk.l0,spec_l1In_eq,Option.bind_some];rw [if_pos (by omega),if_pos (by omega),if_pos (by omega),rd_cell' m j hj,if_pos h1]) ?_
    refine yes_all (L := fun i k => spec_MemoryOk.l1 k (j : Int) (i : Int) m) m[j] (fun w => viewOk m w.f1) h2 ?_ (fun i hi hq ih' => ?_)
    · exact Ev.step (fun k => by simp only [spec_MemoryOk.l1];rw [if_pos (by omega),if_pos (by omega),rd_cell' m j hj,if_neg (by omega),wrapS hj (by omega)]) ih
    · refine Ev.step (fun k => by simp only [spec_MemoryOk.l1];rw [if_pos (by omega),if_pos (by omega),rd_cell' m j hj,if_pos (by omega),if_pos (by omega),rd_write _ i hi]) (Ev.bind (spec_ViewOk_ev m _ hm (hc.2 _ (List.getElem_mem hi))) ?_)
      refine Ev.ite_pos hq ?_
      rw [wrapS hi (by omega)]
      exact ih'
  · have hc := hm.2 m[j] (List.getElem_mem hj)
    by_cases h1 : inn (m[j].length : Int) 1 4000 = true
    · have h2 : m[j].all (fun w => viewOk m w.f1) = false := by unfold cellIn at hp;rwa [h1,Bool.true_and] at hp
      refine Ev.step (fun k => by simp only [spec_MemoryOk.l0,spec_l1In_eq,Option.bind_some];rw [if_pos (by omega),if_pos (by omega),if_pos (by omega),rd_cell' m j hj,if_pos h1]) ?_
      refine no_all (L := fun i k => spec_MemoryOk.l1 k (j : Int) (i : Int) m) m[j] (fun w => viewOk m w.f1) h2 (fun i hi hq ih' => ?_) (fun i hi hq => ?_)
      · refine Ev.step (fun k => by simp only [spec_MemoryOk.l1];rw [if_pos (by omega),if_pos (by omega),rd_cell' m j hj,if_pos (by omega),if_pos (by omega),rd_write _ i hi]) (Ev.bind (spec_ViewOk_ev m _ hm (hc.2 _ (List.getElem_mem hi))) ?_)
        refine Ev.ite_pos hq ?_
        rw [wrapS hi (by omega)]
        exact ih'
      · refine Ev.step (fun k => by simp only [spec_MemoryOk.l1];rw [if_pos (by omega),if_pos (by omega),rd_cell' m j hj,if_pos (by omega),if_pos (by omega),rd_write _ i hi]) (Ev.bind (spec_ViewOk_ev m _ hm (hc.2 _ (List.getElem_mem hi))) ?_)
        exact Ev.ite_neg (by rw [hq];simp) (Ev.now _)
    · refine Ev.one fun k => ?_
      simp only [spec_MemoryOk.l0,spec_l1In_eq,Option.bind_some]
      rw [if_pos (by omega),if_pos (by omega),if_pos (by omega),rd_cell' m j hj,if_neg h1]
theorem impl_MemoryOk_ev (m : List (List S170)) (hm : Small m) : Ev (fun k => impl_MemoryOk.f k m) (memOk m) := by
  have hl := hm.1
  refine all_loop (L := fun j k => impl_MemoryOk.l0 k m (m.length : Int) (j : Int) m) m (cellIn m) ?_ (fun j hj hp r ih => ?_) (fun j hj hp => ?_)
  · refine Ev.one fun k => ?_
    simp only [impl_MemoryOk.l0]
    rw [if_neg (by omega)]
    congr 1
    rw [Bool.eq_iff_iff]
    simp
    omega
  · have hc := hm.2 m[j] (List.getElem_mem hj)
    have h1 : inn (m[j].length : Int) 1 4000 = true := by unfold cellIn at hp;rw [Bool.and_eq_true] at hp;exact hp.1
    have h2 : m[j].all (fun w => viewOk m w.f1) = true := by unfold cellIn at hp;rw [Bool.and_eq_true] at hp;exact hp.2
    refine Ev.step (fun k => by simp only [impl_MemoryOk.l0,impl_within_eq,Option.bind_some];rw [if_pos (by omega),if_pos (by omega),if_pos (by omega),rd_cell' m j hj,if_pos h1]) ?_
    refine yes_all (L := fun i k => impl_MemoryOk.l1 k m (m.length : Int) (j : Int) m[j] (m[j].length : Int) (i : Int) m) m[j] (fun w => viewOk m w.f1) h2 ?_ (fun i hi hq ih' => ?_)
    · exact Ev.step (fun k => by simp only [impl_MemoryOk.l1];rw [if_neg (by omega),wrapS hj (by omega)]) ih
    · refine Ev.step (fun k => by simp only [impl_MemoryOk.l1];rw [if_pos (by omega),if_pos (by omega),if_pos (by omega),rd_write _ i hi]) (Ev.bind (impl_ViewOk_ev m _ hm (hc.2 _ (List.getElem_mem hi))) ?_)
      refine Ev.ite_pos hq ?_
      rw [wrapS hi (by omega)]
      exact ih'
  · have hc := hm.2 m[j] (List.getElem_mem hj)
    by_cases h1 : inn (m[j].length : Int) 1 4000 = true
    · have h2 : m[j].all (fun w => viewOk m w.f1) = false := by unfold cellIn at hp;rwa [h1,Bool.true_and] at hp
      refine Ev.step (fun k => by simp only [impl_MemoryOk.l0,impl_within_eq,Option.bind_some];rw [if_pos (by omega),if_pos (by omega),if_pos (by omega),rd_cell' m j hj,if_pos h1]) ?_
      refine no_all (L := fun i k => impl_MemoryOk.l1 k m (m.length : Int) (j : Int) m[j] (m[j].length : Int) (i : Int) m) m[j] (fun w => viewOk m w.f1) h2 (fun i hi hq ih' => ?_) (fun i hi hq => ?_)
      · refine Ev.step (fun k => by simp only [impl_MemoryOk.l1];rw [if_pos (by omega),if_pos (by omega),if_pos (by omega),rd_write _ i hi]) (Ev.bind (impl_ViewOk_ev m _ hm (hc.2 _ (List.getElem_mem hi))) ?_)
        refine Ev.ite_pos hq ?_
        rw [wrapS hi (by omega)]
        exact ih'
      · refine Ev.step (fun k => by simp only [impl_MemoryOk.l1];rw [if_pos (by omega),if_pos (by omega),if_pos (by omega),rd_write _ i hi]) (Ev.bind (impl_ViewOk_ev m _ hm (hc.2 _ (List.getElem_mem hi))) ?_)
        exact Ev.ite_neg (by rw [hq];simp) (Ev.now _)
    · refine Ev.one fun k => ?_
      simp only [impl_MemoryOk.l0,impl_within_eq,Option.bind_some]
      rw [if_pos (by omega),if_pos (by omega),if_pos (by omega),rd_cell' m j hj,if_neg h1]
def capOk (c : Int) : Bool := inn c 1 4
def bs : List Int → Int
  | [] => 0
  | c :: l => c + 4 + bs l
theorem bs_append : ∀ a b : List Int,bs (a ++ b) = bs a + bs b
  | [],b => by simp [bs]
  | c :: a,b => by simp only [List.cons_append,bs,bs_append a b];omega
theorem bs_succ {l : List Int} {j : Nat} (h : j < l.length) : bs (l.take (j + 1)) = bs (l.take j) + (l[j] + 4) := by
  rw [List.take_succ_eq_append_getElem h,bs_append]
  simp [bs]
theorem bs_bound : ∀ l : List Int,l.all capOk = true → 5 * (l.length : Int) ≤ bs l ∧ bs l ≤ 8 * (l.length : Int)
  | [],_ => by simp [bs]
  | c :: l,h => by
    rw [List.all_cons,Bool.and_eq_true] at h
    obtain ⟨h1,h2⟩ := h
    have := bs_bound l h2
    have h3 : 1 ≤ c ∧ c ≤ 4 := by simpa [capOk,inn] using h1
    simp only [bs,List.length_cons]
    omega
theorem all_take {l : List Int} (h : l.all capOk = true) (j : Nat) : (l.take j).all capOk = true := by
  rw [List.all_eq_true] at h ⊢
  exact fun x hx => h x (List.mem_of_mem_take hx)
theorem bs_take_bound {l : List Int} (h : l.all capOk = true) {j : Nat} (hj : j ≤ l.length) : 5 * (j : Int) ≤ bs (l.take j) ∧ bs (l.take j) ≤ 8 * (j : Int) := by
  have := bs_bound (l.take j) (all_take h j)
  rw [List.length_take,Nat.min_eq_left hj] at this
  exact this
theorem capOk_get {l : List Int} (h : l.all capOk = true) {j : Nat} (hj : j < l.length) : 1 ≤ l[j] ∧ l[j] ≤ 4 := by
  have := List.all_eq_true.1 h _ (List.getElem_mem hj)
  simpa [capOk,inn] using this
theorem bs_all (l : List Int) : bs (l.take l.length) = bs l := by rw [List.take_length]
def laid (l : List Int) : Bool := l.all capOk && decide (bs l ≤ 24)
def baseOf (l : List Int) (n : Int) : Int := if laid l = true ∧ 0 ≤ n ∧ n < (l.length : Int) then bs (l.take n.toNat) else -1
theorem impl_capsOk_ev (l : List Int) (h : l.length ≤ 9223372036854775807) : Ev (fun k => impl_capsOk.f k l) (l.all capOk) := by
  have key := count_up (L := fun j k => impl_capsOk.l0 k l (l.length : Int) (j : Int)) (R := fun j => allFrom capOk l j) (n := l.length)
    (Ev.one fun k => by simp [impl_capsOk.l0,allFrom_end])
    (fun j hj ih => by
      by_cases e : capOk l[j] = true
      · exact Ev.step (fun k => by
          simp only [impl_capsOk.l0]
          rw [if_pos (by omega),if_pos (by omega),if_pos (by omega),rd_get hj,impl_within_eq,Option.bind_some,show inn l[j] 1 4 = true from e,if_pos rfl,wrapS hj (by omega)]) (by rw [allFrom_step hj,e,Bool.true_and];exact ih)
      · refine Ev.one fun k => ?_
        simp only [impl_capsOk.l0]
        rw [if_pos (by omega),if_pos (by omega),if_pos (by omega),rd_get hj,impl_within_eq,Option.bind_some,if_neg (show ¬ inn l[j] 1 4 = true from e),allFrom_step hj]
        simp [e])
  exact key 0 (Nat.zero_le _)
theorem impl_Base_ev (l : List Int) (h : l.length ≤ 1048576) (n : Int) : Ev (fun k => impl_Base.f k l n) (baseOf l n) := by
  simp only [impl_Base.f,impl_within_eq,Option.bind_some]
  rw [wrap_in (by omega) (by omega)]
  by_cases hn : 0 ≤ n ∧ n < (l.length : Int)
  · have hi : inn n 0 ((l.length : Int) - 1) = true := by simp [inn];omega
    simp only [hi,if_true]
    refine Ev.bind (impl_capsOk_ev l (by omega)) ?_
    by_cases ha : l.all capOk = true
    · obtain ⟨m,rfl⟩ := Int.eq_ofNat_of_zero_le hn.1
      rw [ha,Bool.not_true]
      refine Ev.step (f := fun k => impl_Base.l0 k (m : Int) 0 0 l (l.length : Int) 0) (fun k => by rw [impl_Base.j0,if_neg (by simp)]) ?_
      have key := count_up (L := fun j k => impl_Base.l0 k (m : Int) (bs (l.take (min j m))) (bs (l.take j)) l (l.length : Int) (j : Int)) (R := fun _ => baseOf l (m : Int)) (n := l.length)
        (Ev.one fun k => by
          simp only [impl_Base.l0]
          rw [if_neg (by omega),bs_all,baseOf,Int.toNat_natCast,Nat.min_eq_right (by omega)]
          by_cases h24 : bs l ≤ 24
          · rw [if_neg (by omega),if_pos ⟨by simp [laid,ha,h24],hn⟩]
          · rw [if_pos (by omega),if_neg (fun c => by have := c.1;simp [laid,h24] at this)])
        (fun j hj ih => by
          have h1 := bs_take_bound ha (j := j) (by omega)
          have h2 := capOk_get ha (j := j) (by omega)
          have h3 := bs_take_bound ha (j := min j m) (by omega)
          refine Ev.step (fun k => ?_) ih
          simp only [impl_Base.l0]
          rw [if_pos (by omega),if_pos (by omega),if_pos (by omega),rd_get (by omega),wrap_in (n := l[j] + 4) (by omega) (by omega),wrap_in (n := bs (l.take j) + (l[j] + 4)) (by omega) (by omega),wrapS hj (by omega),← bs_succ]
          by_cases hc : (j : Int) < (m : Int)
          · rw [if_pos hc,wrap_in (by omega) (by omega),Nat.min_eq_left (by omega),Nat.min_eq_left (by omega),← bs_succ]
          · rw [if_neg hc,Nat.min_eq_right (by omega),Nat.min_eq_right (by omega)])
      exact key 0 (Nat.zero_le _)
    · rw [show l.all capOk = false by simpa using ha,Bool.not_false,baseOf,if_neg (fun c => by have := c.1;simp only [laid,Bool.and_eq_true] at this;exact ha this.1)]
      exact Ev.one fun k => by rw [impl_Base.j0,if_pos rfl]
  · have hi : inn n 0 ((l.length : Int) - 1) = false := by simp [inn];omega
    simp only [hi,Bool.false_eq_true,if_false]
    rw [baseOf,if_neg (fun c => hn c.2)]
    exact Ev.one fun k => by rw [impl_Base.j0,if_pos rfl]
theorem spec_l9Base_ev (l : List Int) (h : l.length ≤ 1048576) (ha : l.all capOk = true) (m : Nat) (hm : m ≤ l.length) : Ev (fun k => spec_l9Base.f k l (m : Int)) (bs (l.take m)) := by
  have key := count_up (L := fun j k => spec_l9Base.l0 k l (m : Int) (bs (l.take j)) (j : Int)) (R := fun _ => bs (l.take m)) (n := m)
    (Ev.one fun k => by simp [spec_l9Base.l0])
    (fun j hj ih => by
      have h1 := bs_take_bound ha (j := j) (by omega)
      have h2 := capOk_get ha (j := j) (by omega)
      exact Ev.step (fun k => by
        simp only [spec_l9Base.l0]
        rw [if_pos (by omega),if_pos (by omega),if_pos (by omega),rd_get (by omega),wrap_in (n := bs (l.take j) + l[j]) (by omega) (by omega),wrap_in (by omega) (by omega),wrapS (n := l.length) (by omega) (by omega),show bs (l.take j) + l[j] + 4 = bs (l.take j) + (l[j] + 4) by omega,← bs_succ]) ih)
  exact key 0 (Nat.zero_le _)
theorem spec_l9Right_ev (l : List Int) (h : l.length ≤ 1048576) : Ev (fun k => spec_l9Right.f k l) (laid l) := by
  by_cases ha : l.all capOk = true
  · have key := count_up (L := fun j k => spec_l9Right.l0 k l (j : Int)) (R := fun _ => laid l) (n := l.length)
      (by
        by_cases h24 : (l.length : Int) ≤ 24
        · refine Ev.step (f := fun k => (spec_l9Base.f k l (l.length : Int)).bind fun t111 => (some (decide (t111 ≤ 24)))) (fun k => ?_) (Ev.bind (spec_l9Base_ev l h ha l.length (Nat.le_refl _)) ?_)
          · simp only [spec_l9Right.l0]
            rw [if_neg (by omega),if_pos h24]
          · rw [bs_all]
            simp only [laid,ha,Bool.true_and]
            exact Ev.now _
        · refine Ev.one fun k => ?_
          simp only [spec_l9Right.l0]
          have := (bs_bound l ha).1
          rw [if_neg (by omega),if_neg h24,laid,decide_eq_false (by omega),Bool.and_false])
      (fun j hj ih => Ev.step (fun k => by
        simp only [spec_l9Right.l0]
        rw [if_pos (by omega),if_pos (by omega),rd_get hj,spec_l1In_eq,Option.bind_some,show inn l[j] 1 4 = true from List.all_eq_true.1 ha _ (List.getElem_mem hj),if_pos rfl,wrapS hj (by omega)]) ih)
    exact key 0 (Nat.zero_le _)
  · have hl : laid l = false := by simp [laid,ha]
    have hf : allFrom capOk l 0 = false := by rw [allFrom_zero];simpa using ha
    have key : ∀ d j,j + d = l.length → allFrom capOk l j = false → Ev (fun k => spec_l9Right.l0 k l (j : Int)) false := by
      intro d
      induction d with
      | zero =>
        intro j hj hf
        obtain rfl : j = l.length := by omega
        rw [allFrom_end] at hf
        cases hf
      | succ d ih =>
        intro j hj hf
        rw [allFrom_step (by omega)] at hf
        by_cases e : capOk (l[j]'(by omega)) = true
        · rw [e,Bool.true_and] at hf
          exact Ev.step (fun k => by
            simp only [spec_l9Right.l0]
            rw [if_pos (by omega),if_pos (by omega),rd_get (by omega),spec_l1In_eq,Option.bind_some,show inn (l[j]'(by omega)) 1 4 = true from e,if_pos rfl,wrapS (n := l.length) (by omega) (by omega)]) (ih (j + 1) (by omega) hf)
        · refine Ev.one fun k => ?_
          simp only [spec_l9Right.l0]
          rw [if_pos (by omega),if_pos (by omega),rd_get (by omega),spec_l1In_eq,Option.bind_some,if_neg (show ¬ inn (l[j]'(by omega)) 1 4 = true from e)]
    rw [hl]
    exact key l.length 0 (by omega) hf
theorem spec_Base_ev (l : List Int) (h : l.length ≤ 1048576) (n : Int) : Ev (fun k => spec_Base.f k l n) (baseOf l n) := by
  simp only [spec_Base.f]
  refine Ev.bind (spec_l9Right_ev l h) ?_
  by_cases hl : laid l = true
  · simp only [hl,if_true,spec_l1In_eq,Option.bind_some]
    rw [wrap_in (by omega) (by omega)]
    by_cases hn : 0 ≤ n ∧ n < (l.length : Int)
    · have hi : inn n 0 ((l.length : Int) - 1) = true := by simp [inn];omega
      have ha : l.all capOk = true := by simp only [laid,Bool.and_eq_true] at hl;exact hl.1
      simp only [hi,if_true]
      obtain ⟨m,rfl⟩ := Int.eq_ofNat_of_zero_le hn.1
      refine Ev.bind (spec_l9Base_ev l h ha m (by omega)) ?_
      rw [baseOf,if_pos ⟨hl,hn⟩,Int.toNat_natCast]
      exact Ev.now _
    · have hi : inn n 0 ((l.length : Int) - 1) = false := by simp [inn];omega
      simp only [hi,Bool.false_eq_true,if_false]
      rw [baseOf,if_neg (fun c => hn c.2)]
      exact Ev.now _
  · simp only [hl,if_false]
    rw [baseOf,if_neg (fun c => hl c.1)]
    exact Ev.now _
theorem base_in {l : List Int} {n : Int} (h : 0 ≤ baseOf l n) : baseOf l n < 24 := by
  unfold baseOf at h ⊢
  by_cases c : laid l = true ∧ 0 ≤ n ∧ n < (l.length : Int)
  · rw [if_pos c]
    obtain ⟨hl,h0,h1⟩ := c
    unfold laid at hl
    simp only [Bool.and_eq_true,decide_eq_true_eq] at hl
    have hj : n.toNat < l.length := by omega
    have e1 := bs_append (l.take n.toNat) (l.drop n.toNat)
    rw [List.take_append_drop,List.drop_eq_getElem_cons hj] at e1
    have hd : (l.drop (n.toNat + 1)).all capOk = true := by
      rw [List.all_eq_true] at *
      exact fun x hx => hl.1 x (List.mem_of_mem_drop hx)
    have h2 := (bs_bound _ hd).1
    have h3 := capOk_get hl.1 hj
    simp only [bs] at e1
    omega
  · rw [if_neg c] at h
    omega
def lastOf (m : List (List S170)) (b : Int) : Int := ((m.getD b.toNat []).getD ((m.getD b.toNat []).length - 1) z170).f0
theorem mem_cell {m : List (List S170)} (h : memOk m = true) {b : Int} (h0 : 0 ≤ b) (h1 : b < 24) : b < (m.length : Int) ∧ 1 ≤ (m.getD b.toNat []).length ∧ (m.getD b.toNat []).length ≤ 4000 := by
  unfold memOk at h
  simp only [Bool.and_eq_true,decide_eq_true_eq] at h
  obtain ⟨ha,hl⟩ := h
  have hj : b.toNat < m.length := by omega
  have hc := List.all_eq_true.mp ha m[b.toNat] (List.getElem_mem hj)
  unfold cellIn inn at hc
  simp only [Bool.and_eq_true,decide_eq_true_eq] at hc
  have e : m.getD b.toNat [] = m[b.toNat] := by simp [List.getD_eq_getElem?_getD,hj]
  rw [e]
  omega
theorem impl_last_eq (m : List (List S170)) (h : memOk m = true) (b : Int) (h0 : 0 ≤ b) (h1 : b < 24) : impl_Memory_last.f m b = some (lastOf m b) := by
  obtain ⟨g1,g2,g3⟩ := mem_cell h h0 h1
  have e : rd_L14 m b = m.getD b.toNat [] := rfl
  have w := wrap_in (n := ((m.getD b.toNat []).length : Int) - 1) (by omega) (by omega)
  unfold impl_Memory_last.f
  rw [if_pos h0,if_pos g1,e,w,if_pos (by omega),if_pos (by omega)]
  unfold lastOf rd_T170
  rw [show (((m.getD b.toNat []).length : Int) - 1).toNat = (m.getD b.toNat []).length - 1 by omega]
theorem spec_last_eq (m : List (List S170)) (h : memOk m = true) (b : Int) (h0 : 0 ≤ b) (h1 : b < 24) : spec_l9Last.f m b = some (lastOf m b) := by
  obtain ⟨g1,g2,g3⟩ := mem_cell h h0 h1
  have e : rd_L14 m b = m.getD b.toNat [] := rfl
  have w := wrap_in (n := ((m.getD b.toNat []).length : Int) - 1) (by omega) (by omega)
  unfold spec_l9Last.f
  rw [if_pos h0,if_pos g1,e,w,if_pos (by omega),if_pos (by omega)]
  unfold lastOf rd_T170
  rw [show (((m.getD b.toNat []).length : Int) - 1).toNat = (m.getD b.toNat []).length - 1 by omega]
def lockedOf (m : List (List S170)) (l : List Int) (n : Int) : Bool := if 0 ≤ baseOf l n then (if memOk m = true then (lastOf m (baseOf l n) != 0) else false) else false
theorem impl_Locked_ev (m : List (List S170)) (hm : Small m) (l : List Int) (hl : l.length ≤ 1048576) (n : Int) : Ev (fun k => impl_Locked.f k m l n) (lockedOf m l n) := by
  simp only [impl_Locked.f]
  refine Ev.bind (impl_Base_ev l hl n) ?_
  unfold lockedOf
  by_cases h : 0 ≤ baseOf l n
  · refine Ev.ite_pos h ?_
    rw [if_pos h]
    refine Ev.bind (impl_MemoryOk_ev m hm) ?_
    by_cases h2 : memOk m = true
    · refine Ev.ite_pos h2 ?_
      rw [if_pos h2]
      simp only [impl_last_eq m h2 _ h (base_in h),Option.bind_some]
      exact Ev.now _
    · refine Ev.ite_neg h2 ?_
      rw [if_neg h2]
      exact Ev.now _
  · refine Ev.ite_neg h ?_
    rw [if_neg h]
    exact Ev.now _
theorem spec_Locked_ev (m : List (List S170)) (hm : Small m) (l : List Int) (hl : l.length ≤ 1048576) (n : Int) : Ev (fun k => spec_Locked.f k m l n) (lockedOf m l n) := by
  simp only [spec_Locked.f]
  refine Ev.bind (spec_Base_ev l hl n) ?_
  unfold lockedOf
  by_cases h : 0 ≤ baseOf l n
  · refine Ev.ite_pos h ?_
    rw [if_pos h]
    refine Ev.bind (spec_MemoryOk_ev m hm) ?_
    by_cases h2 : memOk m = true
    · refine Ev.ite_pos h2 ?_
      rw [if_pos h2]
      simp only [spec_last_eq m h2 _ h (base_in h),Option.bind_some]
      exact Ev.now _
    · refine Ev.ite_neg h2 ?_
      rw [if_neg h2]
      exact Ev.now _
  · refine Ev.ite_neg h ?_
    rw [if_neg h]
    exact Ev.now _
theorem base_room {l : List Int} {n : Int} (h : 0 ≤ baseOf l n) : 0 ≤ n ∧ n < (l.length : Int) ∧ 1 ≤ rd l n ∧ rd l n ≤ 4 ∧ baseOf l n + 4 + rd l n ≤ 24 := by
  unfold baseOf at h ⊢
  by_cases c : laid l = true ∧ 0 ≤ n ∧ n < (l.length : Int)
  · rw [if_pos c]
    obtain ⟨hl,h0,h1⟩ := c
    unfold laid at hl
    simp only [Bool.and_eq_true,decide_eq_true_eq] at hl
    have hj : n.toNat < l.length := by omega
    have e1 := bs_append (l.take n.toNat) (l.drop n.toNat)
    rw [List.take_append_drop,List.drop_eq_getElem_cons hj] at e1
    have hd : (l.drop (n.toNat + 1)).all capOk = true := by
      rw [List.all_eq_true] at *
      exact fun x hx => hl.1 x (List.mem_of_mem_drop hx)
    have h2 := (bs_bound _ hd).1
    have h3 := capOk_get hl.1 hj
    have e2 : rd l n = l[n.toNat] := by simp [rd,List.getD_eq_getElem?_getD,hj]
    rw [e2]
    simp only [bs] at e1
    omega
  · rw [if_neg c] at h
    omega
def ringOf (m : List (List S170)) (b cap head : Int) (k : Nat) : List Int := (List.range k).map (fun (i : Nat) => lastOf m (b + 4 + Int.tmod (head + (i : Int)) cap))
theorem ring_succ (m : List (List S170)) (b cap head : Int) (k : Nat) : ringOf m b cap head (k + 1) = ringOf m b cap head k ++ [lastOf m (b + 4 + Int.tmod (head + (k : Int)) cap)] := by simp [ringOf,List.range_succ]
theorem ring_len (m : List (List S170)) (b cap head : Int) (k : Nat) : (ringOf m b cap head k).length = k := by simp [ringOf]
def chanAt (m : List (List S170)) (b cap : Int) : Int × List Int × Bool × Bool := if inn (lastOf m (b + 1)) 0 (cap - 1) = true ∧ inn (lastOf m (b + 2)) 0 cap = true ∧ inn (lastOf m (b + 3)) 0 1 = true then (cap,ringOf m b cap (lastOf m (b + 1)) (lastOf m (b + 2)).toNat,lastOf m (b + 3) == 1,true) else (0,[],false,false)
def chanInOf (m : List (List S170)) (l : List Int) (n : Int) : Int × List Int × Bool × Bool := if 0 ≤ baseOf l n then (if memOk m = true then chanAt m (baseOf l n) (rd l n) else (0,[],false,false)) else (0,[],false,false)
theorem tmod_in {a c : Int} (h0 : 0 ≤ a) (h1 : 1 ≤ c) : 0 ≤ Int.tmod a c ∧ Int.tmod a c < c := ⟨Int.tmod_nonneg c h0,Int.tmod_lt_of_pos a (by omega)⟩
theorem impl_ring_ev (m : List (List S170)) (hm : memOk m = true) (b cap head many : Int) (cl : Bool) (h0 : 0 ≤ b) (hc : 1 ≤ cap) (hc4 : cap ≤ 4) (hb : b + 4 + cap ≤ 24) (hh : 0 ≤ head) (hh1 : head ≤ 4) (hn : 0 ≤ many) (hn1 : many ≤ 4) :
    Ev (fun k => impl_Memory_channel.l0 k b cap head many 0 m cap [] cl) (cap,ringOf m b cap head many.toNat,cl,true) := by
  have key := count_up (L := fun j k => impl_Memory_channel.l0 k b cap head many (j : Int) m cap (ringOf m b cap head j) cl) (R := fun _ => (cap,ringOf m b cap head many.toNat,cl,true)) (n := many.toNat)
    (Ev.one fun k => by rw [impl_Memory_channel.l0,if_neg (by omega)])
    (fun j hj ih => by
      have ht := tmod_in (a := head + (j : Int)) (by omega) hc
      refine Ev.step (fun k => ?_) ih
      rw [impl_Memory_channel.l0,if_pos (by omega),if_neg (by omega),wrap_in (n := b + 4) (by omega) (by omega),wrap_in (n := head + (j : Int)) (by omega) (by omega),wrap_in (n := b + 4 + _) (by omega) (by omega),impl_last_eq m hm _ (by omega) (by omega),Option.bind_some,ring_len,if_pos (by omega),← ring_succ,wrapS hj (by omega)])
  exact key 0 (Nat.zero_le _)
theorem impl_channel_ev (m : List (List S170)) (hm : memOk m = true) (b cap : Int) (h0 : 0 ≤ b) (hc : 1 ≤ cap) (hc4 : cap ≤ 4) (hb : b + 4 + cap ≤ 24) : Ev (fun k => impl_Memory_channel.f k m b cap) (chanAt m b cap) := by
  have l1 := impl_last_eq m hm (b + 1) (by omega) (by omega)
  have l2 := impl_last_eq m hm (b + 2) (by omega) (by omega)
  have l3 := impl_last_eq m hm (b + 3) (by omega) (by omega)
  simp only [impl_Memory_channel.f,wrap_in (n := b + 1) (by omega) (by omega),wrap_in (n := b + 2) (by omega) (by omega),wrap_in (n := b + 3) (by omega) (by omega),wrap_in (n := cap - 1) (by omega) (by omega),l1,l2,l3,Option.bind_some,impl_within_eq]
  unfold chanAt
  have no : Ev (fun k => impl_Memory_channel.j0 k b cap (lastOf m (b + 1)) (lastOf m (b + 2)) (lastOf m (b + 3)) true m) (0,[],false,false) := Ev.one fun k => by simp [impl_Memory_channel.j0]
  by_cases c1 : inn (lastOf m (b + 1)) 0 (cap - 1) = true
  case neg => rw [if_neg (fun h => c1 h.1)];exact Ev.ite_neg c1 no
  refine Ev.ite_pos c1 ?_
  by_cases c2 : inn (lastOf m (b + 2)) 0 cap = true
  case neg => rw [if_neg (fun h => c2 h.2.1)];exact Ev.ite_neg c2 no
  refine Ev.ite_pos c2 ?_
  by_cases c3 : inn (lastOf m (b + 3)) 0 1 = true
  case neg =>
    rw [if_neg (fun h => c3 h.2.2),show inn (lastOf m (b + 3)) 0 1 = false by simpa using c3]
    exact no
  rw [if_pos ⟨c1,c2,c3⟩,c3]
  simp only [inn,decide_eq_true_eq] at c1 c2
  refine Ev.step (fun k => ?_) (impl_ring_ev m hm b cap (lastOf m (b + 1)) (lastOf m (b + 2)) (lastOf m (b + 3) == 1) h0 hc hc4 hb (by omega) (by omega) (by omega) (by omega))
  simp [impl_Memory_channel.j0]
theorem impl_ChanIn_ev (m : List (List S170)) (hm : Small m) (l : List Int) (hl : l.length ≤ 1048576) (n : Int) : Ev (fun k => impl_ChanIn.f k m l n) (chanInOf m l n) := by
  simp only [impl_ChanIn.f]
  refine Ev.bind (impl_Base_ev l hl n) ?_
  unfold chanInOf
  by_cases h : 0 ≤ baseOf l n
  · obtain ⟨r0,r1,r2,r3,r4⟩ := base_room h
    refine Ev.ite_neg (by omega) ?_
    rw [if_pos h]
    refine Ev.bind (impl_MemoryOk_ev m hm) ?_
    by_cases h2 : memOk m = true
    · refine Ev.ite_pos h2 ?_
      rw [if_pos h2]
      refine Ev.ite_pos r0 (Ev.ite_pos r1 (Ev.bind (impl_channel_ev m h2 _ _ h r2 r3 r4) ?_))
      exact Ev.now _
    · refine Ev.ite_neg h2 ?_
      rw [if_neg h2]
      exact Ev.now _
  · refine Ev.ite_pos (by omega) ?_
    rw [if_neg h]
    exact Ev.now _
theorem spec_ring_ev (m : List (List S170)) (hm : memOk m = true) (l : List Int) (n b head many : Int) (cl : Bool) (hn0 : 0 ≤ n) (hn1 : n < (l.length : Int)) (h0 : 0 ≤ b) (hc : 1 ≤ rd l n) (hc4 : rd l n ≤ 4) (hb : b + 4 + rd l n ≤ 24) (hh : 0 ≤ head) (hh1 : head ≤ 4) (hm0 : 0 ≤ many) (hm1 : many ≤ 4) :
    Ev (fun k => spec_ChanIn.l0 k l n b head many 0 m (rd l n) [] cl) (rd l n,ringOf m b (rd l n) head many.toNat,cl,true) := by
  have key := count_up (L := fun j k => spec_ChanIn.l0 k l n b head many (j : Int) m (rd l n) (ringOf m b (rd l n) head j) cl) (R := fun _ => (rd l n,ringOf m b (rd l n) head many.toNat,cl,true)) (n := many.toNat)
    (Ev.one fun k => by rw [spec_ChanIn.l0,if_neg (by omega)])
    (fun j hj ih => by
      have ht := tmod_in (a := head + (j : Int)) (c := rd l n) (by omega) hc
      refine Ev.step (fun k => ?_) ih
      rw [spec_ChanIn.l0,if_pos (by omega),if_pos hn0,if_pos hn1,if_neg (by omega),wrap_in (n := b + 4) (by omega) (by omega),wrap_in (n := head + (j : Int)) (by omega) (by omega),wrap_in (n := b + 4 + _) (by omega) (by omega),spec_last_eq m hm _ (by omega) (by omega),Option.bind_some,ring_len,if_pos (by omega),← ring_succ,wrapS hj (by omega)])
  exact key 0 (Nat.zero_le _)
theorem spec_ChanIn_ev (m : List (List S170)) (hm : Small m) (l : List Int) (hl : l.length ≤ 1048576) (n : Int) : Ev (fun k => spec_ChanIn.f k m l n) (chanInOf m l n) := by
  simp only [spec_ChanIn.f]
  refine Ev.bind (spec_Base_ev l hl n) ?_
  unfold chanInOf
  have no : ∀ b,Ev (fun k => spec_ChanIn.j0 k l n b true m) (0,[],false,false) := fun b => Ev.one fun k => by simp [spec_ChanIn.j0]
  by_cases h : 0 ≤ baseOf l n
  · obtain ⟨r0,r1,r2,r3,r4⟩ := base_room h
    refine Ev.ite_neg (by omega) ?_
    rw [if_pos h]
    refine Ev.bind (spec_MemoryOk_ev m hm) ?_
    by_cases h2 : memOk m = true
    · rw [if_pos h2,h2]
      generalize hB : baseOf l n = b at *
      have l1 := spec_last_eq m h2 (b + 1) (by omega) (by omega)
      have l2 := spec_last_eq m h2 (b + 2) (by omega) (by omega)
      have l3 := spec_last_eq m h2 (b + 3) (by omega) (by omega)
      have no1 : Ev (fun k => spec_ChanIn.j1 k l n b (lastOf m (b + 1)) (lastOf m (b + 2)) (lastOf m (b + 3)) true m) (0,[],false,false) := Ev.one fun k => by simp [spec_ChanIn.j1]
      refine Ev.step (f := fun k => if inn (lastOf m (b + 1)) 0 (rd l n - 1) = true then (if inn (lastOf m (b + 2)) 0 (rd l n) = true then spec_ChanIn.j1 k l n b (lastOf m (b + 1)) (lastOf m (b + 2)) (lastOf m (b + 3)) (!inn (lastOf m (b + 3)) 0 1) m else spec_ChanIn.j1 k l n b (lastOf m (b + 1)) (lastOf m (b + 2)) (lastOf m (b + 3)) true m) else spec_ChanIn.j1 k l n b (lastOf m (b + 1)) (lastOf m (b + 2)) (lastOf m (b + 3)) true m) (fun k => ?_) ?_
      · simp only [spec_ChanIn.j0,Bool.not_true,Bool.false_eq_true,if_false,wrap_in (n := b + 1) (by omega) (by omega),wrap_in (n := b + 2) (by omega) (by omega),wrap_in (n := b + 3) (by omega) (by omega),wrap_in (n := rd l n - 1) (by omega) (by omega),l1,l2,l3,Option.bind_some,spec_l1In_eq,if_pos r0,if_pos r1]
      · unfold chanAt
        by_cases c1 : inn (lastOf m (b + 1)) 0 (rd l n - 1) = true
        case neg => rw [if_neg (fun h => c1 h.1)];exact Ev.ite_neg c1 no1
        refine Ev.ite_pos c1 ?_
        by_cases c2 : inn (lastOf m (b + 2)) 0 (rd l n) = true
        case neg => rw [if_neg (fun h => c2 h.2.1)];exact Ev.ite_neg c2 no1
        refine Ev.ite_pos c2 ?_
        by_cases c3 : inn (lastOf m (b + 3)) 0 1 = true
        case neg =>
          rw [if_neg (fun h => c3 h.2.2),show inn (lastOf m (b + 3)) 0 1 = false by simpa using c3]
          exact no1
        rw [if_pos ⟨c1,c2,c3⟩,c3]
        simp only [inn,decide_eq_true_eq] at c1 c2
        refine Ev.step (fun k => ?_) (spec_ring_ev m h2 l n b (lastOf m (b + 1)) (lastOf m (b + 2)) (lastOf m (b + 3) == 1) r0 r1 h r2 r3 r4 (by omega) (by omega) (by omega) (by omega))
        simp only [spec_ChanIn.j1,Bool.not_true,Bool.false_eq_true,if_false,if_pos r0,if_pos r1]
    · rw [if_neg h2,show memOk m = false by simpa using h2]
      exact no _
  · refine Ev.ite_pos (by omega) ?_
    rw [if_neg h]
    exact no _
theorem chanIn_len (m : List (List S170)) (caps : List Int) (n : Int) : (chanInOf m caps n).2.1.length ≤ 1048576 := by
  unfold chanInOf
  by_cases h : 0 ≤ baseOf caps n
  · obtain ⟨r0,r1,r2,r3,r4⟩ := base_room h
    rw [if_pos h]
    by_cases h2 : memOk m = true
    · rw [if_pos h2]
      unfold chanAt
      by_cases c : inn (lastOf m (baseOf caps n + 1)) 0 (rd caps n - 1) = true ∧ inn (lastOf m (baseOf caps n + 2)) 0 (rd caps n) = true ∧ inn (lastOf m (baseOf caps n + 3)) 0 1 = true
      · rw [if_pos c]
        have c2 := c.2.1
        simp only [inn,decide_eq_true_eq] at c2
        simp only [ring_len]
        omega
      · rw [if_neg c];simp
    · rw [if_neg h2];simp
  · rw [if_neg h];simp
theorem l13_ev (a b : List Int) (ha : a.length ≤ 1048576) (hb : b.length ≤ 9223372036854775807) : Ev (fun k => spec_l13Ints.f k a b) (decide (a = b)) := by
  have key := count_up (L := fun j k => spec_l13Ints.l0 k a b (j : Int)) (R := fun j => agree a b j) (n := min a.length b.length)
    (by
      have e : agree a b (min a.length b.length) = ((a.length : Int) == (b.length : Int)) := by
        by_cases hl : a.length = b.length
        · rw [show min a.length b.length = a.length by omega,agree_end hl,show ((a.length : Int) == (b.length : Int)) = true by rw [beq_iff_eq];omega]
        · rw [show ((a.length : Int) == (b.length : Int)) = false by rw [beq_eq_false_iff_ne];omega]
          unfold agree
          rw [decide_eq_false_iff_not]
          intro c
          have := congrArg List.length c
          simp only [List.length_drop] at this
          omega
      rw [e]
      by_cases h1 : a.length ≤ b.length
      · refine Ev.step (f := fun k => spec_l13Ints.j1 k a b ((min a.length b.length : Nat) : Int) false) (fun k => ?_) (Ev.one fun k => by simp [spec_l13Ints.j1])
        rw [spec_l13Ints.l0,if_neg (by omega)]
      · refine Ev.step (f := fun k => spec_l13Ints.j1 k a b ((min a.length b.length : Nat) : Int) false) (fun k => ?_) (Ev.one fun k => by simp [spec_l13Ints.j1])
        rw [spec_l13Ints.l0,if_pos (by omega),decide_eq_false (by omega)])
    (fun j hj ih => by
      refine Ev.step (f := fun k => spec_l13Ints.j1 k a b (j : Int) true) (fun k => ?_) ?_
      · rw [spec_l13Ints.l0,if_pos (by omega),decide_eq_true (by omega)]
      by_cases e : a[j] = b[j]
      · rw [agree_step (by omega) (by omega) e]
        refine Ev.step (fun k => ?_) ih
        rw [spec_l13Ints.j1,if_pos rfl,if_pos (by omega),if_pos (by omega),if_pos (by omega),if_pos (by rw [rd_get (by omega),rd_get (by omega),e]),wrapS (n := a.length) (by omega) (by omega)]
      · rw [agree_no (by omega) (by omega) e]
        exact Ev.one fun k => by rw [spec_l13Ints.j1,if_pos rfl,if_pos (by omega),if_pos (by omega),if_pos (by omega),if_neg (by rw [rd_get (by omega),rd_get (by omega)];exact e)])
  have := key 0 (Nat.zero_le _)
  simpa [spec_l13Ints.f,agree_zero] using this
theorem slicesEq_ev (a b : List Int) (h : a.length ≤ 1048576) : Ev (fun k => slices_Equal_int_int.f k a b) (decide (a = b)) := by
  by_cases hl : a.length = b.length
  · have key := count_up (L := fun j k => slices_Equal_int_int.l0 k a b (a.length : Int) (j : Int)) (R := fun j => agree a b j) (n := a.length)
      (Ev.one fun k => by rw [slices_Equal_int_int.l0,if_neg (by omega),agree_end hl])
      (fun j hj ih => by
        by_cases e : a[j] = b[j]
        · rw [agree_step hj (by omega) e]
          exact Ev.step (fun k => by rw [slices_Equal_int_int.l0,if_pos (by omega),if_pos (by omega),if_pos (by omega),if_pos (by omega),if_pos (by rw [rd_get hj,rd_get (by omega),e]),wrapS hj (by omega)]) ih
        · rw [agree_no hj (by omega) e]
          exact Ev.one fun k => by rw [slices_Equal_int_int.l0,if_pos (by omega),if_pos (by omega),if_pos (by omega),if_pos (by omega),if_neg (by rw [rd_get hj,rd_get (by omega)];exact e)])
    have := key 0 (Nat.zero_le _)
    refine Ev.congr (fun k => ?_) this
    unfold slices_Equal_int_int.f
    rw [if_pos (by omega)]
    rfl
  · refine Ev.all fun k => ?_
    unfold slices_Equal_int_int.f
    rw [if_neg (by omega),decide_eq_false (fun e => hl (by rw [e]))]
def sameOf (caps : List Int) (m : List (List S170)) (cs : List S94) (n : Int) : Bool :=
  if 0 ≤ baseOf caps n ∧ n < (cs.length : Int) then (if lockedOf m caps n = true then true else
    (chanInOf m caps n).2.2.2 && decide ((chanInOf m caps n).1 = (rd_T94 cs n).f0) && ((chanInOf m caps n).2.2.1 == (rd_T94 cs n).f2) && decide ((chanInOf m caps n).2.1 = (rd_T94 cs n).f1)) else false
theorem spec_ChanSame_ev (caps : List Int) (bs_ : List (List S192)) (cd : List (List S175)) (co : List S123) (m : List (List S170)) (tr : List S35) (th : List S107) (cs : List S94) (tr2 : List S35) (n : Int) (hm : Small m) (hc : caps.length ≤ 1048576) (hcs : ∀ c ∈ cs,c.f1.length ≤ 1048576) :
    Ev (fun k => spec_ChanSame.f k caps bs_ cd co m tr th cs tr2 n) (sameOf caps m cs n) := by
  simp only [spec_ChanSame.f]
  refine Ev.bind (spec_Base_ev caps hc n) ?_
  unfold sameOf
  have no : Ev (fun k => spec_ChanSame.j0 k n true caps bs_ cd co m tr th cs tr2) false := Ev.one fun k => by simp [spec_ChanSame.j0]
  by_cases h : 0 ≤ baseOf caps n
  case neg => rw [if_neg (fun c => h c.1)];exact Ev.ite_pos (by omega) no
  refine Ev.ite_neg (by omega) ?_
  by_cases h1 : n < (cs.length : Int)
  case neg => rw [if_neg (fun c => h1 c.2),decide_eq_true (by omega)];exact no
  obtain ⟨r0,r1,-,-,-⟩ := base_room h
  rw [if_pos ⟨h,h1⟩,decide_eq_false (by omega)]
  have hi : n.toNat < cs.length := by omega
  have hb : (rd_T94 cs n).f1.length ≤ 9223372036854775807 := by
    have e : rd_T94 cs n = cs[n.toNat] := by simp [rd_T94,List.getD_eq_getElem?_getD,hi]
    rw [e]
    have := hcs _ (List.getElem_mem hi)
    omega
  refine Ev.step (f := fun k => (spec_Locked.f k m caps n).bind fun t => (if t = true then (some true) else ((spec_ChanIn.f k m caps n).bind fun bt => (if 0 ≤ n then (if n < (cs.length : Int) then (if bt.2.2.2 = true then (if bt.1 = ((rd_T94 cs n).f0) then (if (bt.2.2.1 == ((rd_T94 cs n).f2)) = true then ((spec_l13Ints.f k bt.2.1 ((rd_T94 cs n).f1)).bind fun t => (some t)) else (some false)) else (some false)) else (some false)) else (none)) else (none))))) (fun k => by simp [spec_ChanSame.j0]) ?_
  refine Ev.bind (spec_Locked_ev m hm caps hc n) ?_
  by_cases hL : lockedOf m caps n = true
  · rw [if_pos hL];exact Ev.ite_pos hL (Ev.now _)
  rw [if_neg hL]
  refine Ev.ite_neg hL ?_
  refine Ev.bind (spec_ChanIn_ev m hm caps hc n) ?_
  refine Ev.ite_pos r0 (Ev.ite_pos h1 ?_)
  have hlen := chanIn_len m caps n
  generalize chanInOf m caps n = z at hlen ⊢
  by_cases e1 : z.2.2.2 = true
  case neg => rw [show z.2.2.2 = false by simpa using e1];simp only [Bool.false_and];exact Ev.ite_neg (by simp) (Ev.now _)
  rw [e1]
  refine Ev.ite_pos rfl ?_
  by_cases e2 : z.1 = (rd_T94 cs n).f0
  case neg => rw [decide_eq_false e2];simp only [Bool.and_false,Bool.false_and];exact Ev.ite_neg e2 (Ev.now _)
  rw [decide_eq_true e2]
  refine Ev.ite_pos e2 ?_
  by_cases e3 : (z.2.2.1 == (rd_T94 cs n).f2) = true
  case neg => rw [show (z.2.2.1 == (rd_T94 cs n).f2) = false by simpa using e3];simp only [Bool.and_false,Bool.false_and];exact Ev.ite_neg (by simp) (Ev.now _)
  rw [e3]
  refine Ev.ite_pos (by simp) ?_
  refine Ev.bind (l13_ev z.2.1 _ hlen hb) ?_
  simp only [Bool.true_and]
  exact Ev.now _
theorem impl_ChanSame_ev (caps : List Int) (bs_ : List (List S192)) (cd : List (List S175)) (co : List S123) (m : List (List S170)) (tr : List S35) (th : List S107) (cs : List S94) (tr2 : List S35) (n : Int) (hm : Small m) (hc : caps.length ≤ 1048576) :
    Ev (fun k => impl_ChanSame.f k caps bs_ cd co m tr th cs tr2 n) (sameOf caps m cs n) := by
  simp only [impl_ChanSame.f,wrap_in (n := (caps.length : Int) - 1) (by omega) (by omega),impl_within_eq,Option.bind_some]
  unfold sameOf
  have no : Ev (fun k => impl_ChanSame.j0 k n true caps bs_ cd co m tr th cs tr2) false := Ev.one fun k => by simp [impl_ChanSame.j0]
  by_cases hw : inn n 0 ((caps.length : Int) - 1) = true
  case neg =>
    rw [if_neg (fun c => hw (by obtain ⟨r0,r1,-,-,-⟩ := base_room c.1;simp only [inn,decide_eq_true_eq];omega))]
    exact Ev.ite_neg hw no
  refine Ev.ite_pos hw ?_
  simp only [inn,decide_eq_true_eq] at hw
  by_cases h1 : n < (cs.length : Int)
  case neg => rw [if_neg (fun c => h1 c.2),decide_eq_true (by omega)];exact no
  rw [decide_eq_false (by omega)]
  refine Ev.step (f := fun k => (impl_Locked.f k m caps n).bind fun t => (if t = true then (some true) else ((impl_ChanIn.f k m caps n).bind fun bt => (if 0 ≤ n then (if n < (cs.length : Int) then (if bt.2.2.2 = true then (if bt.1 = ((rd_T94 cs n).f0) then ((slices_Equal_int_int.f k bt.2.1 ((rd_T94 cs n).f1)).bind fun t => (if t = true then (some (bt.2.2.1 == ((rd_T94 cs n).f2))) else (some false))) else (some false)) else (some false)) else (none)) else (none))))) (fun k => by simp [impl_ChanSame.j0]) ?_
  refine Ev.bind (impl_Locked_ev m hm caps hc n) ?_
  by_cases h : 0 ≤ baseOf caps n
  case neg =>
    rw [if_neg (fun c => h c.1)]
    have hL : lockedOf m caps n = false := by unfold lockedOf;rw [if_neg h]
    have hC : chanInOf m caps n = (0,[],false,false) := by unfold chanInOf;rw [if_neg h]
    rw [hL]
    refine Ev.ite_neg (by simp) ?_
    refine Ev.bind (impl_ChanIn_ev m hm caps hc n) ?_
    rw [hC]
    exact Ev.ite_pos (by omega) (Ev.ite_pos h1 (Ev.ite_neg (by simp) (Ev.now _)))
  rw [if_pos ⟨h,h1⟩]
  by_cases hL : lockedOf m caps n = true
  · rw [if_pos hL];exact Ev.ite_pos hL (Ev.now _)
  rw [if_neg hL]
  refine Ev.ite_neg hL ?_
  refine Ev.bind (impl_ChanIn_ev m hm caps hc n) ?_
  refine Ev.ite_pos (by omega) (Ev.ite_pos h1 ?_)
  have hlen := chanIn_len m caps n
  generalize chanInOf m caps n = z at hlen ⊢
  by_cases e1 : z.2.2.2 = true
  case neg => rw [show z.2.2.2 = false by simpa using e1];simp only [Bool.false_and];exact Ev.ite_neg (by simp) (Ev.now _)
  rw [e1]
  refine Ev.ite_pos rfl ?_
  by_cases e2 : z.1 = (rd_T94 cs n).f0
  case neg => rw [decide_eq_false e2];simp only [Bool.and_false,Bool.false_and];exact Ev.ite_neg e2 (Ev.now _)
  rw [decide_eq_true e2]
  refine Ev.ite_pos e2 ?_
  refine Ev.bind (slicesEq_ev z.2.1 _ hlen) ?_
  by_cases e3 : z.2.1 = (rd_T94 cs n).f1
  · rw [decide_eq_true e3]
    simp only [Bool.true_and,Bool.and_true]
    exact Ev.ite_pos (by simp) (Ev.now _)
  · rw [decide_eq_false e3]
    simp only [Bool.and_false]
    exact Ev.ite_neg (by simp) (Ev.now _)
theorem chans_len (xs : List S186) (h : xs.length + total wlChan xs ≤ 1048576) : ∀ c ∈ xs.map cvChan,c.f1.length ≤ 1048576 := by
  intro c hc
  obtain ⟨y,hy,rfl⟩ := List.mem_map.1 hc
  have h1 := total_mem wlChan hy
  have h2 : wlChan y = y.f1.length := rfl
  show y.f1.length ≤ 1048576
  omega
theorem FnExactChanSame (x0_0 : (List Int)) (x0_1 : (List (List S208))) (x1_0 : (List (List S177))) (x1_1 : (List S194)) (x1_2_0 : (List (List S238))) (x1_3 : (List S190)) (x2_0 : (List S184)) (x2_1 : (List S186)) (x2_2 : (List S190)) (x3 : Int) (ok0 : ((x0_0.length ≤ maxLen ∧ ∀ z ∈ x0_0,((Lit.int .i64 z).wf = true)) ∧ (x0_1.length ≤ maxLen ∧ ∀ z ∈ x0_1,(z.length ≤ maxLen ∧ ∀ z' ∈ z,(((Lit.int .i64 z'.f0).wf = true) ∧ (((Lit.int .i64 z'.f1).wf = true) ∧ (((Lit.int .i64 z'.f2).wf = true) ∧ (((Lit.int .i64 z'.f3).wf = true) ∧ ((Lit.int .i64 z'.f4).wf = true))))))))) (ok1 : ((x1_0.length ≤ maxLen ∧ ∀ z ∈ x1_0,(z.length ≤ maxLen ∧ ∀ z' ∈ z,(((Lit.int .i64 z'.f0).wf = true) ∧ (((Lit.int .i64 z'.f1).wf = true) ∧ (((Lit.int .i64 z'.f2).wf = true) ∧ (((Lit.int .i64 z'.f3).wf = true) ∧ ((Lit.int .i64 z'.f4).wf = true))))))) ∧ ((x1_1.length ≤ maxLen ∧ ∀ z ∈ x1_1,(((Lit.int .i64 z.f0).wf = true) ∧ ((z.f1.length ≤ maxLen ∧ ∀ z' ∈ z.f1,((Lit.int .i64 z').wf = true)) ∧ ((z.f2.length ≤ maxLen ∧ ∀ z' ∈ z.f2,((Lit.int .i64 z').wf = true)) ∧ ((Lit.int .i64 z.f3).wf = true))))) ∧ ((x1_2_0.length ≤ maxLen ∧ ∀ z ∈ x1_2_0,(z.length ≤ maxLen ∧ ∀ z' ∈ z,(((Lit.int .i64 z'.f0).wf = true) ∧ (z'.f1.length ≤ maxLen ∧ ∀ z'' ∈ z'.f1,((Lit.int .i64 z'').wf = true))))) ∧ (x1_3.length ≤ maxLen ∧ ∀ z ∈ x1_3,(((Lit.int .i64 z.f0).wf = true) ∧ ((Lit.int .i64 z.f1).wf = true))))))) (ok2 : ((x2_0.length ≤ maxLen ∧ ∀ z ∈ x2_0,(((Lit.int .i64 z.f0).wf = true) ∧ ((z.f1.length ≤ maxLen ∧ ∀ z' ∈ z.f1,((Lit.int .i64 z').wf = true)) ∧ ((Lit.int .i64 z.f2).wf = true)))) ∧ ((x2_1.length ≤ maxLen ∧ ∀ z ∈ x2_1,(((Lit.int .i64 z.f0).wf = true) ∧ ((z.f1.length ≤ maxLen ∧ ∀ z' ∈ z.f1,((Lit.int .i64 z').wf = true)) ∧ True))) ∧ (x2_2.length ≤ maxLen ∧ ∀ z ∈ x2_2,(((Lit.int .i64 z.f0).wf = true) ∧ ((Lit.int .i64 z.f1).wf = true)))))) (ok3 : ((Lit.int .i64 x3).wf = true)) : ∃ k,laws_FnExactChanSame.f k x0_0 x0_1 x1_0 x1_1 x1_2_0 x1_3 x2_0 x2_1 x2_2 x3 = some true := by
  refine Ev.rounds (g := fun k => laws_FnExactChanSame.f k x0_0 x0_1 x1_0 x1_1 x1_2_0 x1_3 x2_0 x2_1 x2_2 x3) ?_
  simp only [laws_FnExactChanSame.f]
  refine Ev.bind (szProg_ev x0_0 x0_1 1048576 (by omega) (by omega) ⟨(by have := ((ok0).1).1;unfold maxLen at this;omega),⟨(by have := ((ok0).2).1;unfold maxLen at this;omega),fun x0_ h0_ => (by have := (((ok0).2).2 x0_ h0_).1;unfold maxLen at this;omega)⟩⟩) ?_
  by_cases h : ((x0_0.length + (x0_1.length + total wlInsS x0_1) : Nat) : Int) ≤ 1048576
  case neg => rw [left?_no h];exact Ev.ite_pos (by omega) (Ev.now _)
  rw [left?_yes h]
  refine Ev.ite_neg (by omega) ?_
  generalize hB1 : (1048576 : Int) - ((x0_0.length + (x0_1.length + total wlInsS x0_1) : Nat) : Int) = B1
  refine Ev.bind (szMachine_ev x1_0 x1_1 x1_2_0 x1_3 B1 (by omega) (by omega) ⟨⟨(by have := ((ok1).1).1;unfold maxLen at this;omega),fun x0_ h0_ => (by have := (((ok1).1).2 x0_ h0_).1;unfold maxLen at this;omega)⟩,⟨(by have := ((ok1).2.1).1;unfold maxLen at this;omega),fun x0_ h0_ => ⟨(by have := ((((ok1).2.1).2 x0_ h0_).2.1).1;unfold maxLen at this;omega),(by have := ((((ok1).2.1).2 x0_ h0_).2.2.1).1;unfold maxLen at this;omega)⟩⟩,⟨(by have := (((ok1).2.2.1)).1;unfold maxLen at this;omega),fun x0_ h0_ => ⟨(by have := ((((ok1).2.2.1)).2 x0_ h0_).1;unfold maxLen at this;omega),fun x1_ h1_ => (by have := ((((((ok1).2.2.1)).2 x0_ h0_).2 x1_ h1_).2).1;unfold maxLen at this;omega)⟩⟩,(by have := ((ok1).2.2.2).1;unfold maxLen at this;omega)⟩) ?_
  by_cases h1 : (((x1_0.length + total wlStepS x1_0) + ((x1_1.length + total wlCore x1_1) + ((x1_2_0.length + total wlWriteS x1_2_0) + (x1_3.length))) : Nat) : Int) ≤ B1
  case neg => rw [left?_no h1];exact Ev.ite_pos (by omega) (Ev.now _)
  rw [left?_yes h1]
  refine Ev.ite_neg (by omega) ?_
  generalize hB2 : B1 - (((x1_0.length + total wlStepS x1_0) + ((x1_1.length + total wlCore x1_1) + ((x1_2_0.length + total wlWriteS x1_2_0) + (x1_3.length))) : Nat) : Int) = B2
  refine Ev.bind (szSource_ev x2_0 x2_1 x2_2 B2 (by omega) (by omega) ⟨⟨(by have := ((ok2).1).1;unfold maxLen at this;omega),fun x0_ h0_ => (by have := ((((ok2).1).2 x0_ h0_).2.1).1;unfold maxLen at this;omega)⟩,⟨(by have := ((ok2).2.1).1;unfold maxLen at this;omega),fun x0_ h0_ => (by have := ((((ok2).2.1).2 x0_ h0_).2.1).1;unfold maxLen at this;omega)⟩,(by have := ((ok2).2.2).1;unfold maxLen at this;omega)⟩) ?_
  by_cases h2 : (((x2_0.length + total wlThread x2_0) + ((x2_1.length + total wlChan x2_1) + x2_2.length) : Nat) : Int) ≤ B2
  case neg => rw [left?_no (by omega)];exact Ev.ite_pos (by omega) (Ev.now _)
  rw [left?_yes (by omega)]
  refine Ev.ite_neg (by omega) ?_
  have p1 := toProg_ev x0_0 x0_1 (by omega) (by omega)
  have p2 := toMachine_ev x1_0 x1_1 x1_2_0 x1_3 (by omega) (by omega) (by omega) (by omega)
  have p3 := toSource_ev x2_0 x2_1 x2_2 (by omega) (by omega) (by omega)
  have hs := small_of x1_2_0 (by omega)
  refine Ev.bind p1 ?_
  refine Ev.bind p2 ?_
  refine Ev.bind p3 ?_
  dsimp only
  refine Ev.bind (spec_ChanSame_ev x0_0 _ _ _ _ _ _ _ _ x3 hs (by omega) (chans_len x2_1 (by omega))) ?_
  refine Ev.bind p1 ?_
  refine Ev.bind p2 ?_
  refine Ev.bind p3 ?_
  dsimp only
  refine Ev.bind (impl_ChanSame_ev x0_0 _ _ _ _ _ _ _ _ x3 hs (by omega)) ?_
  refine Ev.ite_pos rfl ?_
  refine Ev.bind p1 ?_
  dsimp only
  refine Ev.bind (eqProg_self x0_0 (x0_1.map cvInsS) (by omega) (bodies_eq x0_1 (by omega))) ?_
  refine Ev.ite_pos rfl ?_
  refine Ev.bind p2 ?_
  dsimp only
  refine Ev.bind (eqMachine_self _ _ _ _ (codes_eq x1_0 (by omega)) (cores_eq x1_1 (by omega)) (eq_small x1_2_0 (by omega)) (by simp;omega)) ?_
  refine Ev.ite_pos rfl ?_
  refine Ev.bind p3 ?_
  dsimp only
  refine Ev.bind (eqSource_self (x2_0.map cvThread) (x2_1.map cvChan) (x2_2.map cvNote) (threads_eq x2_0 (by omega)) (chans_eq x2_1 (by omega)) (by simp;omega)) ?_
  refine Ev.ite_pos rfl ?_
  exact Ev.now _
end Go.Proofs.Ytobachfngmpeiaa.Pure
namespace Go.Proofs.Ytobachfngmpeiaa.Rd
open Go.RowKit Go.Proofs.YtobachfngmpeiaaW.PrintWords Go.ChangeShapes Go.WideShapes
set_option linter.unusedVariables false
def Opens {α : Type} (P : Program) (t : TypeId) (d : Kd α) (ok : α → Prop) : Prop :=
  ∀ (H : Type) (enc : TypeId × Value → H) (w : World) (base : Nat) (spare : Nat → Bool) (held : Bool) (fuel : Nat) (cs : List Value) (x : DataW H × List MemPlace),
    DataW.trod enc P w base spare held fuel t cs = some x → ∃ y,d.K w y cs ∧ ok y
theorem Opens.int {P : Program} {t : TypeId} {k : IntKind} (ht : P.underlying t = some (.int k)) : Opens P t (Kd.int k) (fun n => (Lit.int k n).wf = true) := by
  intro H enc w base spare held fuel cs x h
  obtain ⟨n,rfl,_,hw⟩ := DataW.trod_int ht h
  exact ⟨n,rfl,hw⟩
theorem Opens.bool {P : Program} {t : TypeId} (ht : P.underlying t = some .bool) : Opens P t Kd.bool (fun _ => True) := by
  intro H enc w base spare held fuel cs x h
  obtain ⟨n,rfl,_⟩ := DataW.trod_bool ht h
  exact ⟨n,rfl,trivial⟩
theorem Opens.weaken {α : Type} {P : Program} {t : TypeId} {d : Kd α} {ok ok' : α → Prop} (h : Opens P t d ok) (hk : ∀ x,ok x → ok' x) : Opens P t d ok' := by
  intro H enc w base spare held fuel cs x hx
  obtain ⟨y,hy,o⟩ := h H enc w base spare held fuel cs x hx
  exact ⟨y,hy,hk y o⟩
theorem list_of {α : Type} {Q : Nat → α → Prop} : ∀ n : Nat,(∀ i,i < n → ∃ y,Q i y) → ∃ ys : List α,ys.length = n ∧ ∀ i y,ys[i]? = some y → Q i y := by
  intro n
  induction n with
  | zero => exact fun _ => ⟨[],rfl,fun i y h => by simp at h⟩
  | succ n ih =>
    intro h
    obtain ⟨ys,hl,hq⟩ := ih (fun i hi => h i (by omega))
    obtain ⟨y,hy⟩ := h n (by omega)
    refine ⟨ys ++ [y],by simp [hl],fun i z hz => ?_⟩
    rcases Nat.lt_or_ge i ys.length with hi | hi
    · rw [List.getElem?_append_left hi] at hz
      exact hq i z hz
    · rw [List.getElem?_append_right hi] at hz
      have h0 : i - ys.length = 0 := by
        have := (List.getElem?_eq_some_iff.1 hz).1
        simp at this
        omega
      rw [h0] at hz
      simp at hz
      subst hz
      have : i = n := by omega
      rw [this]
      exact hy
theorem Opens.slice {α : Type} {P : Program} {t e : TypeId} (q : Nat) {d : Kd α} {ok : α → Prop} (ht : P.underlying t = some (.slice e)) (hs : P.cellsOf e = d.sz) (he : Opens P e d ok) :
    Opens P t (Kd.slice q d) (fun xs => xs.length ≤ maxLen ∧ ∀ x ∈ xs,ok x) := by
  intro H enc w base spare held fuel cs x h
  rcases DataW.trod_slice ht h with ⟨rfl,_⟩ | ⟨a,len,cap,elems,rest,n,_,rfl,_,_,hl,hm,hlen,hel,_,_⟩
  · exact ⟨[],⟨none,0,rfl,Nat.le_refl _,rfl,by simp,fun hp => absurd hp (by simp)⟩,by simp,by simp⟩
  · have each : ∀ i,i < len → ∃ y,∃ c,w.cells? base (a.add (i * d.sz)) d.sz = some c ∧ d.K w y c ∧ ok y := by
      intro i hi
      have h1 := hel i hi
      rw [List.getElem?_eq_getElem (by omega),Option.bind_eq_some_iff,hs] at h1
      obtain ⟨c,hc,hx⟩ := h1
      obtain ⟨y,hy,ho⟩ := he H enc w base spare held n c _ hx
      exact ⟨y,c,hc,hy,ho⟩
    obtain ⟨ys,hyl,hq⟩ := list_of len each
    have hm' : len ≤ 9223372036854775807 := by unfold maxLen at hm;omega
    refine ⟨ys,⟨some a,cap,by rw [hyl],by omega,rfl,by omega,fun _ => ⟨a,rfl,fun j p hj => ?_⟩⟩,by omega,fun y hy => ?_⟩
    · obtain ⟨c,hc,hk,_⟩ := hq j p hj
      obtain ⟨_,hcl,hcell⟩ := World.cells?_some hc
      refine ⟨c,hcl,hk,fun i u hu => ?_⟩
      have hi : i < d.sz := by
        have := (List.getElem?_eq_some_iff.1 hu).1
        omega
      rw [← Addr.add_add,hcell i hi,hu]
    · obtain ⟨i,hi⟩ := List.getElem?_of_mem hy
      obtain ⟨c,_,_,ho⟩ := hq i y hi
      exact ho
def OpensAt {α : Type} (P : Program) (fs : List Field) (off : Nat) (d : Kd α) (ok : α → Prop) : Prop :=
  ∀ (H : Type) (enc : TypeId × Value → H) (w : World) (base : Nat) (spare : Nat → Bool) (held : Bool) (n : Nat) (cs : List Value),cs.length = off + d.sz →
    (∀ f ∈ fs,∃ y,DataW.trod enc P w base spare held n f.type ((cs.drop f.offset).take (P.cellsOf f.type)) = some y) → ∃ y,d.K w y (cs.drop off) ∧ ok y
theorem OpensAt.one {α : Type} {P : Program} {f : Field} {off : Nat} {d : Kd α} {ok : α → Prop} (ho : f.offset = off) (hs : P.cellsOf f.type = d.sz) (h : Opens P f.type d ok) : OpensAt P [f] off d ok := by
  intro H enc w base spare held n cs hl hf
  obtain ⟨x,hx⟩ := hf f (by simp)
  rw [ho,hs,List.take_of_length_le (by simp;omega)] at hx
  exact h _ _ _ _ _ _ _ _ _ hx
theorem OpensAt.cons {α β : Type} {P : Program} {f : Field} {fs : List Field} {off : Nat} {a : Kd α} {b : Kd β} {oka : α → Prop} {okb : β → Prop} (ho : f.offset = off) (hs : P.cellsOf f.type = a.sz) (h : Opens P f.type a oka)
    (hr : OpensAt P fs (off + a.sz) b okb) : OpensAt P (f :: fs) off (Kd.pair a b) (fun x => oka x.1 ∧ okb x.2) := by
  intro H enc w base spare held n cs hl hf
  obtain ⟨x,hx⟩ := hf f (by simp)
  rw [ho,hs] at hx
  obtain ⟨y,hy,oy⟩ := h _ _ _ _ _ _ _ _ _ hx
  have hl' : cs.length = (off + a.sz) + b.sz := by rw [hl];show off + (a.sz + b.sz) = _;omega
  obtain ⟨z,hz,oz⟩ := hr H enc w base spare held n cs hl' (fun g hg => hf g (by simp [hg]))
  refine ⟨(y,z),⟨_,_,?_,hy,hz⟩,oy,oz⟩
  rw [← List.drop_drop]
  exact (List.take_append_drop _ _).symm
theorem Opens.struct {α : Type} {P : Program} {t : TypeId} {fs : List Field} {d : Kd α} {ok : α → Prop} (ht : P.underlying t = some (.struct (List.toArray fs))) (hs : P.cellsOf t = d.sz) (h : OpensAt P fs 0 d ok) : Opens P t d ok := by
  intro H enc w base spare held fuel cs x hx
  obtain ⟨xs,n,_,_,hl,hlen,hf⟩ := DataW.trod_struct ht hx
  obtain ⟨y,hy,oy⟩ := h H enc w base spare held n cs (by omega) (fun f hm => by
    obtain ⟨i,hi⟩ := List.getElem?_of_mem hm
    have hi' : (List.toArray fs)[i]? = some f := by simpa using hi
    have h1 := hf i f hi'
    have hlt : i < xs.length := by
      have := (Array.getElem?_eq_some_iff.1 hi').1
      omega
    rw [List.getElem?_eq_getElem hlt] at h1
    exact ⟨_,h1⟩)
  exact ⟨y,by simpa using hy,oy⟩
theorem Opens.iso {α β : Type} {P : Program} {t : TypeId} {d : Kd α} {ok : α → Prop} (f : β → α) (g : α → β) (hg : ∀ x,f (g x) = x) (h : Opens P t d ok) : Opens P t (Kd.iso d f) (fun y => ok (f y)) := by
  intro H enc w base spare held fuel cs x hx
  obtain ⟨y,hy,o⟩ := h H enc w base spare held fuel cs x hx
  refine ⟨g y,?_,?_⟩
  · show d.K w (f (g y)) cs
    rw [hg]
    exact hy
  · show ok (f (g y))
    rw [hg]
    exact o
theorem Opens.at_struct {α : Type} {P : Program} {t : TypeId} {d : Kd α} {ok : α → Prop} (h : Opens P t d ok) {H : Type} {enc : TypeId × Value → H} {w : World} {base : Nat} {spare : Nat → Bool} {held : Bool} {v : Value} {x : DataW H} {ps : List MemPlace}
    {fs : Array Field} {r : Reach} {b0 : Nat} (hu : P.underlying t = some (.struct fs)) (hv : Value.okWide P w r b0 t v) (hx : DataW.Trod enc P w base spare held t v x ps) : ∃ y cs,v = .agg (List.toArray cs) ∧ d.K w y cs ∧ ok y := by
  obtain ⟨cs,rfl,_⟩ := okWide_struct hu hv
  obtain ⟨fuel,hf⟩ := hx
  obtain ⟨y,hK,o⟩ := h _ _ _ _ _ _ _ _ _ hf
  exact ⟨y,cs.toList,by simp,by simpa [Value.cells] using hK,o⟩
end Go.Proofs.Ytobachfngmpeiaa.Rd
