/- Part of the proof of FnExactAble. -/
import Derived.ProofKit
import Derived.DataElems
import Derived.ChangeArms
import Derived.SizedLaws
import Derived.Test.YtobachfngmpeiaaZFnExactAblea26
namespace Go.Proofs.Ytobachfngmpeiaa.Pure
open Go.RowKit Go.Proofs.Ytobachfngmpeiaa Go.Proofs.Ytobachfngmpeiaa.PFnExactAble Go.Proofs.YtobachfngmpeiaaW.PrintWords Go.Proofs.YtobachfngmpeiaaW.PrintLast Go.Proofs.Ytobachfngmpeiaa.Lp
set_option linter.unusedVariables false
set_option linter.unusedSimpArgs false
theorem toIntS_ev (l : List Int) (h : l.length ≤ 35184372088832) : Ev (fun k => laws_toIntS.f k l) l := by
 have key := count_up (L := fun j k => laws_toIntS.l0 k l (l.take j ++ List.replicate (l.length - j) 0) (j : Int)) (R := fun _ => l) (n := l.length)
  (Ev.one fun k => by simp [laws_toIntS.l0])
  (fun j hj ih => Ev.step (fun k => by
   simp only [laws_toIntS.l0]
   rw [if_pos (by omega),if_pos (by omega),if_pos (by simp;omega),wrapS hj (by omega),Int.toNat_natCast,fill_set l 0 j hj _ (rd_get hj)]) ih)
 refine Ev.congr (fun k => ?_) (key 0 (Nat.zero_le _))
 unfold laws_toIntS.f
 rw [if_pos (by omega),if_pos (by simpa using h)]
 simp
theorem eqIntS_ev (a b : List Int) (h : a.length ≤ 9223372036854775807) : Ev (fun k => laws_eqIntS.f k a b) (decide (a = b)) := by
  by_cases hl : a.length = b.length
  · have key := count_up (L := fun j k => laws_eqIntS.l0 k a b (j : Int)) (R := fun j => agree a b j) (n := a.length)
      (Ev.one fun k => by simp [laws_eqIntS.l0,agree_end hl])
      (fun j hj ih => by
        by_cases e : a[j] = b[j]
        · exact Ev.step (fun k => by
            simp only [laws_eqIntS.l0]
            rw [if_pos (by omega),if_pos (by omega),if_pos (by omega),if_pos (by rw [rd_get hj,rd_get (by omega),e]),wrapS hj (by omega)]) (by rw [agree_step hj (by omega) e];exact ih)
        · exact Ev.one fun k => by
            simp only [laws_eqIntS.l0]
            rw [if_pos (by omega),if_pos (by omega),if_pos (by omega),if_neg (by rw [rd_get hj,rd_get (by omega)];exact e),agree_no hj (by omega) e])
    refine Ev.congr (fun k => ?_) (key 0 (Nat.zero_le _))
    unfold laws_eqIntS.f
    rw [if_pos (by omega)]
    rfl
  · refine Ev.all fun k => ?_
    unfold laws_eqIntS.f
    rw [if_neg (by omega),decide_eq_false (fun e => hl (by rw [e]))]
theorem eqIntS_self (a : List Int) (h : a.length ≤ 9223372036854775807) : Ev (fun k => laws_eqIntS.f k a a) true := by
 have := eqIntS_ev a a h
 simpa using this
def cvIns (x : S208) : S192 := ⟨x.f0,x.f1,x.f2,x.f3,x.f4⟩
def cvInsS (xs : (List S208)) : (List S192) := xs.map cvIns
def wlInsS (xs : (List S208)) : Nat := xs.length
def wiInsS (xs : (List S192)) : Nat := xs.length
theorem w_cvInsS (xs : (List S208)) : wiInsS (cvInsS xs) = wlInsS xs := by simp [wiInsS,wlInsS,cvInsS]
theorem szIntS_ev (l : (List Int)) (a : Int) (h0 : 0 ≤ a) (hB : a ≤ 1048576) (hl : l.length ≤ 9223372036854775807) : Ev (fun k => laws_szIntS.f l a) (left? l.length a) := by
 refine Ev.all fun k => ?_
 unfold laws_szIntS.f left?
 rw [wrap_in (by omega) (by omega)]
 by_cases h : (l.length : Int) ≤ a
 ·rw [if_neg (by omega),if_pos h]
 ·rw [if_pos (by omega),if_neg h]
theorem szInsS_ev (l : (List S208)) (a : Int) (h0 : 0 ≤ a) (hB : a ≤ 1048576) (hl : l.length ≤ 9223372036854775807) : Ev (fun k => laws_szInsS.f l a) (left? l.length a) := by
 refine Ev.all fun k => ?_
 unfold laws_szInsS.f left?
 rw [wrap_in (by omega) (by omega)]
 by_cases h : (l.length : Int) ≤ a
 ·rw [if_neg (by omega),if_pos h]
 ·rw [if_pos (by omega),if_neg h]
theorem szInsSS_ev (xs : (List (List S208))) (a : Int) (h0 : 0 ≤ a) (hB : a ≤ 1048576) (hfin : (xs.length ≤ 9223372036854775807 ∧ ∀ y ∈ xs,y.length ≤ 9223372036854775807)) : Ev (fun k => laws_szInsSS.f k xs a) (left? (xs.length + total wlInsS xs) a) := by
  obtain ⟨hl,hfin⟩ := hfin
  have rd_e : ∀ (j : Nat) (hj : j < xs.length),rd_L2 xs (j : Int) = xs[j] := fun j hj => by simp [rd_L2,List.getD_eq_getElem?_getD,hj]
  by_cases h : (xs.length : Int) ≤ a
  · have key := sz_loop (L := fun j a k => laws_szInsSS.l0 k xs a (j : Int)) xs wlInsS 1048576 (fun a => Ev.one fun k => by simp only [laws_szInsSS.l0];rw [if_neg (by omega)])
      (fun j hj a hB hw r ih => by
        have h0 : 0 ≤ a := by omega
        have hw' : ((xs[j].length : Nat) : Int) ≤ a := hw
        refine Ev.step (fun k => by simp only [laws_szInsSS.l0];rw [if_pos (by omega),if_pos (by omega),rd_e j hj]) (Ev.bind (szInsS_ev xs[j] a h0 hB (hfin xs[j] (List.getElem_mem hj))) ?_)
        rw [left?_yes hw',wrapS hj hl]
        exact Ev.ite_neg (by omega) ih)
      (fun j hj a h0 hB hw => by
        have hw' : ¬ ((xs[j].length : Nat) : Int) ≤ a := by have : a < (wlInsS xs[j] : Int) := hw;intro c;exact absurd (show (wlInsS xs[j] : Int) ≤ a from c) (by omega)
        refine Ev.step (fun k => by simp only [laws_szInsSS.l0];rw [if_pos (by omega),if_pos (by omega),rd_e j hj]) (Ev.bind (szInsS_ev xs[j] a h0 hB (hfin xs[j] (List.getElem_mem hj))) ?_)
        rw [left?_no hw']
        exact Ev.ite_pos (by omega) (Ev.now _)) (a - (xs.length : Int)) (by omega) (by omega)
    rw [left?_add h] at key
    refine Ev.congr (fun k => ?_) key
    unfold laws_szInsSS.f
    rw [wrap_in (by omega) (by omega),if_neg (by omega)]
    rfl
  · refine Ev.all fun k => ?_
    unfold laws_szInsSS.f
    rw [wrap_in (by omega) (by omega),if_pos (by omega),left?_no (by omega)]
theorem szProg_ev (a_0 : (List Int)) (a_1 : (List (List S208))) (a : Int) (h0 : 0 ≤ a) (hB : a ≤ 1048576) (hfin : (a_0.length ≤ 9223372036854775807 ∧ (a_1.length ≤ 9223372036854775807 ∧ ∀ y ∈ a_1,y.length ≤ 9223372036854775807))) : Ev (fun k => laws_szProg.f k a_0 a_1 a) (left? (a_0.length + ((a_1.length + total wlInsS a_1))) a) := by
 obtain ⟨h0_,h1_⟩ := hfin
 simp only [laws_szProg.f]
 refine Ev.bind (szIntS_ev a_0 a (by omega) (by omega) h0_) ?_
 by_cases c0 : ((a_0.length : Nat) : Int) ≤ a
 case neg => rw [left?_no c0];(try rw [left?_no (by omega)]);exact Ev.ite_pos (by omega) (Ev.now _)
 rw [left?_yes c0]
 refine Ev.ite_neg (by omega) ?_
 refine Ev.bind (szInsSS_ev a_1 (a - ((a_0.length : Nat) : Int)) (by omega) (by omega) h1_) ?_
 by_cases c1 : (((a_1.length + total wlInsS a_1) : Nat) : Int) ≤ (a - ((a_0.length : Nat) : Int))
 case neg => rw [left?_no c1];(try rw [left?_no (by omega)]);exact Ev.ite_pos (by omega) (Ev.now _)
 rw [left?_yes c1]
 refine Ev.ite_neg (by omega) ?_
 (try rw [left?_yes (by omega)])
 exact Ev.val (by omega) (Ev.now _)
theorem toIns_ev (a_0 : Int) (a_1 : Int) (a_2 : Int) (a_3 : Int) (a_4 : Int)  : Ev (fun k => laws_toIns.f a_0 a_1 a_2 a_3 a_4) (a_0,a_1,a_2,a_3,a_4) := by
 exact Ev.all fun k => rfl
theorem toInsS_ev (xs : (List S208)) (h : xs.length ≤ 1048576) : Ev (fun k => laws_toInsS.f k xs) (xs.map cvIns) := by
 have rd_e : ∀ (j : Nat) (hj : j < xs.length),rd_T208 xs (j : Int) = xs[j] := fun j hj => by simp [rd_T208,List.getD_eq_getElem?_getD,hj]
 have key := to_loop (L := fun j ys k => laws_toInsS.l0 k xs ys (j : Int)) xs cvIns z192 (fun ys _ => Ev.one fun k => by simp only [laws_toInsS.l0];rw [if_neg (by omega)])
  (fun j hj ys hy r ih => by
   refine Ev.step (fun k => by simp only [laws_toInsS.l0];rw [if_pos (by omega),if_pos (by omega),rd_e j hj]) (Ev.bind (toIns_ev (xs[j].f0) (xs[j].f1) (xs[j].f2) (xs[j].f3) (xs[j].f4) ) ?_)
   refine Ev.ite_pos (by omega) ?_
   rw [wrapS hj (by omega),Int.toNat_natCast]
   exact ih)
 refine Ev.congr (fun k => ?_) key
 unfold laws_toInsS.f
 rw [if_pos (by omega),if_pos (by simp;omega)]
 simp only [Int.toNat_natCast]
 rfl
theorem toInsSS_ev (xs : (List (List S208))) (h : (xs.length + total wlInsS xs) ≤ 1048576) : Ev (fun k => laws_toInsSS.f k xs) (xs.map cvInsS) := by
 have rd_e : ∀ (j : Nat) (hj : j < xs.length),rd_L2 xs (j : Int) = xs[j] := fun j hj => by simp [rd_L2,List.getD_eq_getElem?_getD,hj]
 have key := to_loop (L := fun j ys k => laws_toInsSS.l0 k xs ys (j : Int)) xs cvInsS [] (fun ys _ => Ev.one fun k => by simp only [laws_toInsSS.l0];rw [if_neg (by omega)])
  (fun j hj ys hy r ih => by
   refine Ev.step (fun k => by simp only [laws_toInsSS.l0];rw [if_pos (by omega),if_pos (by omega),rd_e j hj]) (Ev.bind (toInsS_ev xs[j] (by have := total_mem wlInsS (List.getElem_mem hj);have h2 : xs[j].length = wlInsS xs[j] := rfl;omega)) ?_)
   refine Ev.ite_pos (by omega) ?_
   rw [wrapS hj (by omega),Int.toNat_natCast]
   exact ih)
 refine Ev.congr (fun k => ?_) key
 unfold laws_toInsSS.f
 rw [if_pos (by omega),if_pos (by simp;omega)]
 simp only [Int.toNat_natCast]
 rfl
theorem toProg_ev (a_0 : (List Int)) (a_1 : (List (List S208))) (h0 : a_0.length ≤ 1048576) (h1 : (a_1.length + total wlInsS a_1) ≤ 1048576) : Ev (fun k => laws_toProg.f k a_0 a_1) (a_0,(a_1.map cvInsS)) := by
 simp only [laws_toProg.f]
 refine Ev.bind (toIntS_ev a_0 (by omega)) ?_
 try simp only []
 refine Ev.bind (toInsSS_ev a_1 h1) ?_
 try simp only []
 exact Ev.now _
theorem eqIns_self (a_0 : Int) (a_1 : Int) (a_2 : Int) (a_3 : Int) (a_4 : Int)  : Ev (fun k => laws_eqIns.f a_0 a_1 a_2 a_3 a_4 a_0 a_1 a_2 a_3 a_4) true := by
 exact Ev.all fun k => by simp [laws_eqIns.f]
theorem eqInsS_self (xs : (List S192)) (h : xs.length ≤ 1048576) : Ev (fun k => laws_eqInsS.f k xs xs) true := by
 have rd_e : ∀ (j : Nat) (hj : j < xs.length),rd_T192 xs (j : Int) = xs[j] := fun j hj => by simp [rd_T192,List.getD_eq_getElem?_getD,hj]
 have key := yes_loop (L := fun j k => laws_eqInsS.l0 k xs xs (j : Int)) xs.length true (Ev.one fun k => by simp only [laws_eqInsS.l0];rw [if_neg (by omega)])
  (fun j hj ih => by
   refine Ev.step (fun k => by simp only [laws_eqInsS.l0];rw [if_pos (by omega),if_pos (by omega),if_pos (by omega),rd_e j hj]) (Ev.bind (eqIns_self (xs[j].f0) (xs[j].f1) (xs[j].f2) (xs[j].f3) (xs[j].f4) ) ?_)
   refine Ev.ite_pos rfl ?_
   rw [wrapS hj (by omega)]
   exact ih)
 refine Ev.congr (fun k => ?_) key
 unfold laws_eqInsS.f
 rw [if_pos rfl]
 rfl
theorem eqInsSS_self (xs : (List (List S192))) (h : (xs.length + total wiInsS xs) ≤ 1048576) : Ev (fun k => laws_eqInsSS.f k xs xs) true := by
 have rd_e : ∀ (j : Nat) (hj : j < xs.length),rd_L4 xs (j : Int) = xs[j] := fun j hj => by simp [rd_L4,List.getD_eq_getElem?_getD,hj]
 have key := yes_loop (L := fun j k => laws_eqInsSS.l0 k xs xs (j : Int)) xs.length true (Ev.one fun k => by simp only [laws_eqInsSS.l0];rw [if_neg (by omega)])
  (fun j hj ih => by
   refine Ev.step (fun k => by simp only [laws_eqInsSS.l0];rw [if_pos (by omega),if_pos (by omega),if_pos (by omega),rd_e j hj]) (Ev.bind (eqInsS_self xs[j] (by have := total_mem wiInsS (List.getElem_mem hj);have h2 : xs[j].length = wiInsS xs[j] := rfl;omega)) ?_)
   refine Ev.ite_pos rfl ?_
   rw [wrapS hj (by omega)]
   exact ih)
 refine Ev.congr (fun k => ?_) key
 unfold laws_eqInsSS.f
 rw [if_pos rfl]
 rfl
theorem eqProg_self (a_0 : (List Int)) (a_1 : (List (List S192))) (h0 : a_0.length ≤ 1048576) (h1 : (a_1.length + total wiInsS a_1) ≤ 1048576) : Ev (fun k => laws_eqProg.f k a_0 a_1 a_0 a_1) true := by
 simp only [laws_eqProg.f,eq_self,if_true,bne_self_eq_false,Bool.false_eq_true,if_false]
 refine Ev.bind (eqIntS_self a_0 (by omega)) ?_
 try simp only [eq_self,if_true,bne_self_eq_false,Bool.false_eq_true,if_false]
 refine Ev.bind (eqInsSS_self a_1 h1) ?_
 try simp only [eq_self,if_true,bne_self_eq_false,Bool.false_eq_true,if_false]
 exact Ev.now _
def wlThread (x : S184) : Nat := x.f1.length
def wiThread (x : S107) : Nat := x.f1.length
def cvThread (x : S184) : S107 := ⟨x.f0,x.f1,x.f2⟩
theorem w_cvThread (x : S184) : wiThread (cvThread x) = wlThread x := rfl
def wlChan (x : S186) : Nat := x.f1.length
def wiChan (x : S94) : Nat := x.f1.length
def cvChan (x : S186) : S94 := ⟨x.f0,x.f1,x.f2⟩
theorem w_cvChan (x : S186) : wiChan (cvChan x) = wlChan x := rfl
def cvNote (x : S190) : S35 := ⟨x.f0,x.f1⟩
theorem szThread_ev (a_0 : Int) (a_1 : (List Int)) (a_2 : Int) (a : Int) (h0 : 0 ≤ a) (hB : a ≤ 1048576) (hfin : a_1.length ≤ 9223372036854775807) : Ev (fun k => laws_szThread.f a_0 a_1 a_2 a) (left? (a_1.length) a) := by
 simp only [laws_szThread.f]
 refine Ev.bind (szIntS_ev a_1 a (by omega) (by omega) hfin) ?_
 by_cases c0 : ((a_1.length : Nat) : Int) ≤ a
 case neg => rw [left?_no c0];(try rw [left?_no (by omega)]);exact Ev.ite_pos (by omega) (Ev.now _)
 rw [left?_yes c0]
 refine Ev.ite_neg (by omega) ?_
 (try rw [left?_yes (by omega)])
 exact Ev.val (by omega) (Ev.now _)
theorem szThreadS_ev (xs : (List S184)) (a : Int) (h0 : 0 ≤ a) (hB : a ≤ 1048576) (hfin : (xs.length ≤ 9223372036854775807 ∧ ∀ y ∈ xs,y.f1.length ≤ 9223372036854775807)) : Ev (fun k => laws_szThreadS.f k xs a) (left? (xs.length + total wlThread xs) a) := by
  obtain ⟨hl,hfin⟩ := hfin
  have rd_e : ∀ (j : Nat) (hj : j < xs.length),rd_T184 xs (j : Int) = xs[j] := fun j hj => by simp [rd_T184,List.getD_eq_getElem?_getD,hj]
  by_cases h : (xs.length : Int) ≤ a
  · have key := sz_loop (L := fun j a k => laws_szThreadS.l0 k xs a (j : Int)) xs wlThread 1048576 (fun a => Ev.one fun k => by simp only [laws_szThreadS.l0];rw [if_neg (by omega)])
      (fun j hj a hB hw r ih => by
        have h0 : 0 ≤ a := by omega
        have hw' : ((xs[j].f1.length : Nat) : Int) ≤ a := hw
        refine Ev.step (fun k => by simp only [laws_szThreadS.l0];rw [if_pos (by omega),if_pos (by omega),rd_e j hj]) (Ev.bind (szThread_ev (xs[j].f0) (xs[j].f1) (xs[j].f2) a h0 hB (hfin xs[j] (List.getElem_mem hj))) ?_)
        rw [left?_yes hw',wrapS hj hl]
        exact Ev.ite_neg (by omega) ih)
      (fun j hj a h0 hB hw => by
        have hw' : ¬ ((xs[j].f1.length : Nat) : Int) ≤ a := by have : a < (wlThread xs[j] : Int) := hw;intro c;exact absurd (show (wlThread xs[j] : Int) ≤ a from c) (by omega)
        refine Ev.step (fun k => by simp only [laws_szThreadS.l0];rw [if_pos (by omega),if_pos (by omega),rd_e j hj]) (Ev.bind (szThread_ev (xs[j].f0) (xs[j].f1) (xs[j].f2) a h0 hB (hfin xs[j] (List.getElem_mem hj))) ?_)
        rw [left?_no hw']
        exact Ev.ite_pos (by omega) (Ev.now _)) (a - (xs.length : Int)) (by omega) (by omega)
    rw [left?_add h] at key
    refine Ev.congr (fun k => ?_) key
    unfold laws_szThreadS.f
    rw [wrap_in (by omega) (by omega),if_neg (by omega)]
    rfl
  · refine Ev.all fun k => ?_
    unfold laws_szThreadS.f
    rw [wrap_in (by omega) (by omega),if_pos (by omega),left?_no (by omega)]
theorem szChan_ev (a_0 : Int) (a_1 : (List Int)) (a_2 : Bool) (a : Int) (h0 : 0 ≤ a) (hB : a ≤ 1048576) (hfin : a_1.length ≤ 9223372036854775807) : Ev (fun k => laws_szChan.f a_0 a_1 a_2 a) (left? (a_1.length) a) := by
 simp only [laws_szChan.f]
 refine Ev.bind (szIntS_ev a_1 a (by omega) (by omega) hfin) ?_
 by_cases c0 : ((a_1.length : Nat) : Int) ≤ a
 case neg => rw [left?_no c0];(try rw [left?_no (by omega)]);exact Ev.ite_pos (by omega) (Ev.now _)
 rw [left?_yes c0]
 refine Ev.ite_neg (by omega) ?_
 (try rw [left?_yes (by omega)])
 exact Ev.val (by omega) (Ev.now _)
theorem szChanS_ev (xs : (List S186)) (a : Int) (h0 : 0 ≤ a) (hB : a ≤ 1048576) (hfin : (xs.length ≤ 9223372036854775807 ∧ ∀ y ∈ xs,y.f1.length ≤ 9223372036854775807)) : Ev (fun k => laws_szChanS.f k xs a) (left? (xs.length + total wlChan xs) a) := by
  obtain ⟨hl,hfin⟩ := hfin
  have rd_e : ∀ (j : Nat) (hj : j < xs.length),rd_T186 xs (j : Int) = xs[j] := fun j hj => by simp [rd_T186,List.getD_eq_getElem?_getD,hj]
  by_cases h : (xs.length : Int) ≤ a
  · have key := sz_loop (L := fun j a k => laws_szChanS.l0 k xs a (j : Int)) xs wlChan 1048576 (fun a => Ev.one fun k => by simp only [laws_szChanS.l0];rw [if_neg (by omega)])
      (fun j hj a hB hw r ih => by
        have h0 : 0 ≤ a := by omega
        have hw' : ((xs[j].f1.length : Nat) : Int) ≤ a := hw
        refine Ev.step (fun k => by simp only [laws_szChanS.l0];rw [if_pos (by omega),if_pos (by omega),rd_e j hj]) (Ev.bind (szChan_ev (xs[j].f0) (xs[j].f1) (xs[j].f2) a h0 hB (hfin xs[j] (List.getElem_mem hj))) ?_)
        rw [left?_yes hw',wrapS hj hl]
        exact Ev.ite_neg (by omega) ih)
      (fun j hj a h0 hB hw => by
        have hw' : ¬ ((xs[j].f1.length : Nat) : Int) ≤ a := by have : a < (wlChan xs[j] : Int) := hw;intro c;exact absurd (show (wlChan xs[j] : Int) ≤ a from c) (by omega)
        refine Ev.step (fun k => by simp only [laws_szChanS.l0];rw [if_pos (by omega),if_pos (by omega),rd_e j hj]) (Ev.bind (szChan_ev (xs[j].f0) (xs[j].f1) (xs[j].f2) a h0 hB (hfin xs[j] (List.getElem_mem hj))) ?_)
        rw [left?_no hw']
        exact Ev.ite_pos (by omega) (Ev.now _)) (a - (xs.length : Int)) (by omega) (by omega)
    rw [left?_add h] at key
    refine Ev.congr (fun k => ?_) key
    unfold laws_szChanS.f
    rw [wrap_in (by omega) (by omega),if_neg (by omega)]
    rfl
  · refine Ev.all fun k => ?_
    unfold laws_szChanS.f
    rw [wrap_in (by omega) (by omega),if_pos (by omega),left?_no (by omega)]
theorem szNoteS_ev (l : (List S190)) (a : Int) (h0 : 0 ≤ a) (hB : a ≤ 1048576) (hl : l.length ≤ 9223372036854775807) : Ev (fun k => laws_szNoteS.f l a) (left? l.length a) := by
 refine Ev.all fun k => ?_
 unfold laws_szNoteS.f left?
 rw [wrap_in (by omega) (by omega)]
 by_cases h : (l.length : Int) ≤ a
 ·rw [if_neg (by omega),if_pos h]
 ·rw [if_pos (by omega),if_neg h]
theorem szSource_ev (a_0 : (List S184)) (a_1 : (List S186)) (a_2 : (List S190)) (a : Int) (h0 : 0 ≤ a) (hB : a ≤ 1048576) (hfin : ((a_0.length ≤ 9223372036854775807 ∧ ∀ y ∈ a_0,y.f1.length ≤ 9223372036854775807) ∧ (a_1.length ≤ 9223372036854775807 ∧ ∀ y ∈ a_1,y.f1.length ≤ 9223372036854775807) ∧ a_2.length ≤ 9223372036854775807)) : Ev (fun k => laws_szSource.f k a_0 a_1 a_2 a) (left? ((a_0.length + total wlThread a_0) + ((a_1.length + total wlChan a_1) + (a_2.length))) a) := by
 obtain ⟨h0_,h1_,h2_⟩ := hfin
 simp only [laws_szSource.f]
 refine Ev.bind (szThreadS_ev a_0 a (by omega) (by omega) h0_) ?_
 by_cases c0 : (((a_0.length + total wlThread a_0) : Nat) : Int) ≤ a
 case neg => rw [left?_no c0];(try rw [left?_no (by omega)]);exact Ev.ite_pos (by omega) (Ev.now _)
 rw [left?_yes c0]
 refine Ev.ite_neg (by omega) ?_
 refine Ev.bind (szChanS_ev a_1 (a - (((a_0.length + total wlThread a_0) : Nat) : Int)) (by omega) (by omega) h1_) ?_
 by_cases c1 : (((a_1.length + total wlChan a_1) : Nat) : Int) ≤ (a - (((a_0.length + total wlThread a_0) : Nat) : Int))
 case neg => rw [left?_no c1];(try rw [left?_no (by omega)]);exact Ev.ite_pos (by omega) (Ev.now _)
 rw [left?_yes c1]
 refine Ev.ite_neg (by omega) ?_
 refine Ev.bind (szNoteS_ev a_2 ((a - (((a_0.length + total wlThread a_0) : Nat) : Int)) - (((a_1.length + total wlChan a_1) : Nat) : Int)) (by omega) (by omega) h2_) ?_
 by_cases c2 : ((a_2.length : Nat) : Int) ≤ ((a - (((a_0.length + total wlThread a_0) : Nat) : Int)) - (((a_1.length + total wlChan a_1) : Nat) : Int))
 case neg => rw [left?_no c2];(try rw [left?_no (by omega)]);exact Ev.ite_pos (by omega) (Ev.now _)
 rw [left?_yes c2]
 refine Ev.ite_neg (by omega) ?_
 (try rw [left?_yes (by omega)])
 exact Ev.val (by omega) (Ev.now _)
theorem toThread_ev (a_0 : Int) (a_1 : (List Int)) (a_2 : Int) (h : a_1.length ≤ 1048576) : Ev (fun k => laws_toThread.f k a_0 a_1 a_2) (a_0,a_1,a_2) := by
 simp only [laws_toThread.f]
 refine Ev.bind (toIntS_ev a_1 (by omega)) ?_
 try simp only []
 exact Ev.now _
theorem toThreadS_ev (xs : (List S184)) (h : (xs.length + total wlThread xs) ≤ 1048576) : Ev (fun k => laws_toThreadS.f k xs) (xs.map cvThread) := by
 have rd_e : ∀ (j : Nat) (hj : j < xs.length),rd_T184 xs (j : Int) = xs[j] := fun j hj => by simp [rd_T184,List.getD_eq_getElem?_getD,hj]
 have key := to_loop (L := fun j ys k => laws_toThreadS.l0 k xs ys (j : Int)) xs cvThread z107 (fun ys _ => Ev.one fun k => by simp only [laws_toThreadS.l0];rw [if_neg (by omega)])
  (fun j hj ys hy r ih => by
   refine Ev.step (fun k => by simp only [laws_toThreadS.l0];rw [if_pos (by omega),if_pos (by omega),rd_e j hj]) (Ev.bind (toThread_ev (xs[j].f0) (xs[j].f1) (xs[j].f2) (by have := total_mem wlThread (List.getElem_mem hj);have h2 : xs[j].f1.length = wlThread xs[j] := rfl;omega)) ?_)
   refine Ev.ite_pos (by omega) ?_
   rw [wrapS hj (by omega),Int.toNat_natCast]
   exact ih)
 refine Ev.congr (fun k => ?_) key
 unfold laws_toThreadS.f
 rw [if_pos (by omega),if_pos (by simp;omega)]
 simp only [Int.toNat_natCast]
 rfl
theorem toChan_ev (a_0 : Int) (a_1 : (List Int)) (a_2 : Bool) (h : a_1.length ≤ 1048576) : Ev (fun k => laws_toChan.f k a_0 a_1 a_2) (a_0,a_1,a_2) := by
 simp only [laws_toChan.f]
 refine Ev.bind (toIntS_ev a_1 (by omega)) ?_
 try simp only []
 exact Ev.now _
theorem toChanS_ev (xs : (List S186)) (h : (xs.length + total wlChan xs) ≤ 1048576) : Ev (fun k => laws_toChanS.f k xs) (xs.map cvChan) := by
 have rd_e : ∀ (j : Nat) (hj : j < xs.length),rd_T186 xs (j : Int) = xs[j] := fun j hj => by simp [rd_T186,List.getD_eq_getElem?_getD,hj]
 have key := to_loop (L := fun j ys k => laws_toChanS.l0 k xs ys (j : Int)) xs cvChan z94 (fun ys _ => Ev.one fun k => by simp only [laws_toChanS.l0];rw [if_neg (by omega)])
  (fun j hj ys hy r ih => by
   refine Ev.step (fun k => by simp only [laws_toChanS.l0];rw [if_pos (by omega),if_pos (by omega),rd_e j hj]) (Ev.bind (toChan_ev (xs[j].f0) (xs[j].f1) (xs[j].f2) (by have := total_mem wlChan (List.getElem_mem hj);have h2 : xs[j].f1.length = wlChan xs[j] := rfl;omega)) ?_)
   refine Ev.ite_pos (by omega) ?_
   rw [wrapS hj (by omega),Int.toNat_natCast]
   exact ih)
 refine Ev.congr (fun k => ?_) key
 unfold laws_toChanS.f
 rw [if_pos (by omega),if_pos (by simp;omega)]
 simp only [Int.toNat_natCast]
 rfl
theorem toNote_ev (a_0 : Int) (a_1 : Int)  : Ev (fun k => laws_toNote.f a_0 a_1) (a_0,a_1) := by
 exact Ev.all fun k => rfl
theorem toNoteS_ev (xs : (List S190)) (h : xs.length ≤ 1048576) : Ev (fun k => laws_toNoteS.f k xs) (xs.map cvNote) := by
 have rd_e : ∀ (j : Nat) (hj : j < xs.length),rd_T190 xs (j : Int) = xs[j] := fun j hj => by simp [rd_T190,List.getD_eq_getElem?_getD,hj]
 have key := to_loop (L := fun j ys k => laws_toNoteS.l0 k xs ys (j : Int)) xs cvNote z35 (fun ys _ => Ev.one fun k => by simp only [laws_toNoteS.l0];rw [if_neg (by omega)])
  (fun j hj ys hy r ih => by
   refine Ev.step (fun k => by simp only [laws_toNoteS.l0];rw [if_pos (by omega),if_pos (by omega),rd_e j hj]) (Ev.bind (toNote_ev (xs[j].f0) (xs[j].f1) ) ?_)
   refine Ev.ite_pos (by omega) ?_
   rw [wrapS hj (by omega),Int.toNat_natCast]
   exact ih)
 refine Ev.congr (fun k => ?_) key
 unfold laws_toNoteS.f
 rw [if_pos (by omega),if_pos (by simp;omega)]
 simp only [Int.toNat_natCast]
 rfl
theorem toSource_ev (a_0 : (List S184)) (a_1 : (List S186)) (a_2 : (List S190)) (h0 : (a_0.length + total wlThread a_0) ≤ 1048576) (h1 : (a_1.length + total wlChan a_1) ≤ 1048576) (h2 : a_2.length ≤ 1048576) : Ev (fun k => laws_toSource.f k a_0 a_1 a_2) ((a_0.map cvThread),(a_1.map cvChan),(a_2.map cvNote)) := by
 simp only [laws_toSource.f]
 refine Ev.bind (toThreadS_ev a_0 h0) ?_
 try simp only []
 refine Ev.bind (toChanS_ev a_1 h1) ?_
 try simp only []
 refine Ev.bind (toNoteS_ev a_2 h2) ?_
 try simp only []
 exact Ev.now _
theorem eqThread_self (a_0 : Int) (a_1 : (List Int)) (a_2 : Int) (h : a_1.length ≤ 1048576) : Ev (fun k => laws_eqThread.f k a_0 a_1 a_2 a_0 a_1 a_2) true := by
 simp only [laws_eqThread.f,eq_self,if_true,bne_self_eq_false,Bool.false_eq_true,if_false]
 refine Ev.bind (eqIntS_self a_1 (by omega)) ?_
 try simp only [eq_self,if_true,bne_self_eq_false,Bool.false_eq_true,if_false]
 exact Ev.now _
theorem eqThreadS_self (xs : (List S107)) (h : (xs.length + total wiThread xs) ≤ 1048576) : Ev (fun k => laws_eqThreadS.f k xs xs) true := by
 have rd_e : ∀ (j : Nat) (hj : j < xs.length),rd_T107 xs (j : Int) = xs[j] := fun j hj => by simp [rd_T107,List.getD_eq_getElem?_getD,hj]
 have key := yes_loop (L := fun j k => laws_eqThreadS.l0 k xs xs (j : Int)) xs.length true (Ev.one fun k => by simp only [laws_eqThreadS.l0];rw [if_neg (by omega)])
  (fun j hj ih => by
   refine Ev.step (fun k => by simp only [laws_eqThreadS.l0];rw [if_pos (by omega),if_pos (by omega),if_pos (by omega),rd_e j hj]) (Ev.bind (eqThread_self (xs[j].f0) (xs[j].f1) (xs[j].f2) (by have := total_mem wiThread (List.getElem_mem hj);have h2 : xs[j].f1.length = wiThread xs[j] := rfl;omega)) ?_)
   refine Ev.ite_pos rfl ?_
   rw [wrapS hj (by omega)]
   exact ih)
 refine Ev.congr (fun k => ?_) key
 unfold laws_eqThreadS.f
 rw [if_pos rfl]
 rfl
theorem eqChan_self (a_0 : Int) (a_1 : (List Int)) (a_2 : Bool) (h : a_1.length ≤ 1048576) : Ev (fun k => laws_eqChan.f k a_0 a_1 a_2 a_0 a_1 a_2) true := by
 simp only [laws_eqChan.f,eq_self,if_true,bne_self_eq_false,Bool.false_eq_true,if_false]
 refine Ev.bind (eqIntS_self a_1 (by omega)) ?_
 try simp only [eq_self,if_true,bne_self_eq_false,Bool.false_eq_true,if_false]
 exact Ev.now _
theorem eqChanS_self (xs : (List S94)) (h : (xs.length + total wiChan xs) ≤ 1048576) : Ev (fun k => laws_eqChanS.f k xs xs) true := by
 have rd_e : ∀ (j : Nat) (hj : j < xs.length),rd_T94 xs (j : Int) = xs[j] := fun j hj => by simp [rd_T94,List.getD_eq_getElem?_getD,hj]
 have key := yes_loop (L := fun j k => laws_eqChanS.l0 k xs xs (j : Int)) xs.length true (Ev.one fun k => by simp only [laws_eqChanS.l0];rw [if_neg (by omega)])
  (fun j hj ih => by
   refine Ev.step (fun k => by simp only [laws_eqChanS.l0];rw [if_pos (by omega),if_pos (by omega),if_pos (by omega),rd_e j hj]) (Ev.bind (eqChan_self (xs[j].f0) (xs[j].f1) (xs[j].f2) (by have := total_mem wiChan (List.getElem_mem hj);have h2 : xs[j].f1.length = wiChan xs[j] := rfl;omega)) ?_)
   refine Ev.ite_pos rfl ?_
   rw [wrapS hj (by omega)]
   exact ih)
 refine Ev.congr (fun k => ?_) key
 unfold laws_eqChanS.f
 rw [if_pos rfl]
 rfl
theorem eqNote_self (a_0 : Int) (a_1 : Int)  : Ev (fun k => laws_eqNote.f a_0 a_1 a_0 a_1) true := by
 exact Ev.all fun k => by simp [laws_eqNote.f]
theorem eqNoteS_self (xs : (List S35)) (h : xs.length ≤ 1048576) : Ev (fun k => laws_eqNoteS.f k xs xs) true := by
 have rd_e : ∀ (j : Nat) (hj : j < xs.length),rd_T35 xs (j : Int) = xs[j] := fun j hj => by simp [rd_T35,List.getD_eq_getElem?_getD,hj]
 have key := yes_loop (L := fun j k => laws_eqNoteS.l0 k xs xs (j : Int)) xs.length true (Ev.one fun k => by simp only [laws_eqNoteS.l0];rw [if_neg (by omega)])
  (fun j hj ih => by
   refine Ev.step (fun k => by simp only [laws_eqNoteS.l0];rw [if_pos (by omega),if_pos (by omega),if_pos (by omega),rd_e j hj]) (Ev.bind (eqNote_self (xs[j].f0) (xs[j].f1) ) ?_)
   refine Ev.ite_pos rfl ?_
   rw [wrapS hj (by omega)]
   exact ih)
 refine Ev.congr (fun k => ?_) key
 unfold laws_eqNoteS.f
 rw [if_pos rfl]
 rfl
theorem eqSource_self (a_0 : (List S107)) (a_1 : (List S94)) (a_2 : (List S35)) (h0 : (a_0.length + total wiThread a_0) ≤ 1048576) (h1 : (a_1.length + total wiChan a_1) ≤ 1048576) (h2 : a_2.length ≤ 1048576) : Ev (fun k => laws_eqSource.f k a_0 a_1 a_2 a_0 a_1 a_2) true := by
 simp only [laws_eqSource.f,eq_self,if_true,bne_self_eq_false,Bool.false_eq_true,if_false]
 refine Ev.bind (eqThreadS_self a_0 h0) ?_
 try simp only [eq_self,if_true,bne_self_eq_false,Bool.false_eq_true,if_false]
 refine Ev.bind (eqChanS_self a_1 h1) ?_
 try simp only [eq_self,if_true,bne_self_eq_false,Bool.false_eq_true,if_false]
 refine Ev.bind (eqNoteS_self a_2 h2) ?_
 try simp only [eq_self,if_true,bne_self_eq_false,Bool.false_eq_true,if_false]
 exact Ev.now _
theorem threads_eq (xs : List S184) (h : xs.length + total wlThread xs ≤ 1048576) : (xs.map cvThread).length + total wiThread (xs.map cvThread) ≤ 1048576 := by
 rw [List.length_map,total_map wlThread wiThread cvThread w_cvThread]
 exact h
theorem chans_eq (xs : List S186) (h : xs.length + total wlChan xs ≤ 1048576) : (xs.map cvChan).length + total wiChan (xs.map cvChan) ≤ 1048576 := by
 rw [List.length_map,total_map wlChan wiChan cvChan w_cvChan]
 exact h
def inn (a lo hi : Int) : Bool := decide (lo ≤ a ∧ a ≤ hi)
theorem spec_l1In_eq (a lo hi : Int) : spec_l1In.f a lo hi = some (inn a lo hi) := by
 unfold spec_l1In.f inn
 by_cases h : a ≥ lo
 ·rw [if_pos h];congr 1;simp;omega
 ·rw [if_neg h,decide_eq_false (by omega)]
theorem impl_within_eq (a lo hi : Int) : impl_within.f a lo hi = some (inn a lo hi) := by
 unfold impl_within.f inn
 by_cases h : a ≥ lo
 ·rw [if_pos h];congr 1;simp;omega
 ·rw [if_neg h,decide_eq_false (by omega)]
def InsR (op r a b n p c : Int) : Prop :=
  (0 ≤ r ∧ r ≤ 3) ∧ (0 ≤ a ∧ a ≤ 3) ∧ (0 ≤ b ∧ b ≤ 3) ∧ (0 ≤ c ∧ c ≤ 3) ∧
  ((op = 1 ∧ (-1000000000 ≤ n ∧ n ≤ 1000000000) ∧ a = 0 ∧ b = 0) ∨ ((op = 2 ∨ op = 3 ∨ op = 4) ∧ n = 0) ∨ (op = 5 ∧ (0 ≤ n ∧ n < c) ∧ r = 0 ∧ b = 0) ∨
   ((op = 6 ∨ op = 8) ∧ (0 ≤ n ∧ n < c) ∧ a = 0 ∧ r ≠ b) ∨ (op = 7 ∧ (0 ≤ n ∧ n < c) ∧ b = 0) ∨ (op = 9 ∧ (0 ≤ n ∧ n < c) ∧ r = 0 ∧ a = 0 ∧ b = 0) ∨ (op = 10 ∧ r = 0 ∧ b = 0 ∧ n = 0) ∨
   (op = 11 ∧ (0 ≤ n ∧ n < p) ∧ r = 0 ∧ a = 0 ∧ b = 0) ∨ (op = 12 ∧ (0 ≤ n ∧ n < p) ∧ r = 0 ∧ b = 0) ∨ (op = 13 ∧ r = 0 ∧ a = 0 ∧ b = 0 ∧ n = 0))
instance (op r a b n p c : Int) : Decidable (InsR op r a b n p c) := by unfold InsR;infer_instance
def insOk (op r a b n p c : Int) : Bool := decide (InsR op r a b n p c)
theorem op_cases (op : Int) : op = 1 ∨ op = 2 ∨ op = 3 ∨ op = 4 ∨ op = 5 ∨ op = 6 ∨ op = 7 ∨ op = 8 ∨ op = 9 ∨ op = 10 ∨ op = 11 ∨ op = 12 ∨ op = 13 ∨ (op < 1 ∨ 13 < op) := by omega
theorem wrap_pred {p : Int} (h0 : -9223372036854775807 ≤ p) (h1 : p ≤ 9223372036854775807) : wrap64 (p - 1) = p - 1 := wrap_in (by omega) (by omega)
theorem spec_InsOk_ev (op r a b n p c : Int) : Ev (fun k => spec_InsOk.f k op r a b n p c) (insOk op r a b n p c) := by
 refine ⟨5,fun k hk => ?_⟩
 obtain ⟨m,rfl⟩ : ∃ m,k = m + 5 := ⟨k - 5,by omega⟩
 by_cases hcc : 0 ≤ c ∧ c ≤ 3
 case neg =>
  have h' : ¬ InsR op r a b n p c := by unfold InsR;omega
  simp only [spec_InsOk.f,spec_InsOk.j0,spec_l1In_eq,Option.bind_some,inn,insOk,decide_eq_false hcc,decide_eq_false h',Bool.not_false,if_true]
  repeat' split
  all_goals rfl
 have hc : -9223372036854775807 ≤ c := by omega
 have hc' : c ≤ 9223372036854775807 := by omega
 simp only [spec_InsOk.f,spec_InsOk.j0,spec_InsOk.j1,spec_InsOk.j2,spec_InsOk.j3,spec_l1In_eq,Option.bind_some,inn,insOk,decide_eq_true_eq,wrap_pred hc hc']
 rcases op_cases op with rfl | rfl | rfl | rfl | rfl | rfl | rfl | rfl | rfl | rfl | rfl | rfl | rfl | h
 case inr.inr.inr.inr.inr.inr.inr.inr.inr.inr.inr.inr.inr =>
  have h' : ¬ InsR op r a b n p c := by unfold InsR;omega
  have h4 : (op == 4) = false := by simpa using (show ¬ op = 4 by omega)
  have h8 : (op == 8) = false := by simpa using (show ¬ op = 8 by omega)
  simp only [if_neg (show ¬ op = 1 by omega),if_neg (show ¬ op = 2 by omega),if_neg (show ¬ op = 3 by omega),if_neg (show ¬ op = 5 by omega),if_neg (show ¬ op = 6 by omega),if_neg (show ¬ op = 7 by omega),if_neg (show ¬ op = 9 by omega),if_neg (show ¬ op = 10 by omega),if_neg (show ¬ op = 11 by omega),if_neg (show ¬ op = 12 by omega),if_neg (show ¬ op = 13 by omega),decide_eq_false h',h4,h8,Bool.false_eq_true,if_false]
  repeat' split
  all_goals rfl
 all_goals
  simp only [InsR]
  simp
  repeat' split
  all_goals first
   | (congr 1;rw [Bool.eq_iff_iff];simp;omega)
   | (simp;omega)
theorem impl_isReg_eq (a : Int) : impl_isReg.f a = some (inn a 0 3) := by simp [impl_isReg.f,impl_within_eq]
theorem impl_ofChan_eq (a : Int) : impl_ofChan.f a = some (inn a 5 9) := by simp [impl_ofChan.f,impl_within_eq]
theorem impl_InsOk_ev (op r a b n p c : Int) (hp : -9223372036854775807 ≤ p) (hp' : p ≤ 9223372036854775807) : Ev (fun k => impl_InsOk.f k op r a b n p c) (insOk op r a b n p c) := by
 refine ⟨8,fun k hk => ?_⟩
 obtain ⟨m,rfl⟩ : ∃ m,k = m + 8 := ⟨k - 8,by omega⟩
 by_cases hcc : 0 ≤ c ∧ c ≤ 3
 case neg =>
  have h' : ¬ InsR op r a b n p c := by unfold InsR;omega
  simp only [impl_InsOk.f,impl_InsOk.j0,impl_within_eq,Option.bind_some,inn,insOk,decide_eq_false hcc,decide_eq_false h',Bool.false_eq_true,if_false,if_true]
 have hc : -9223372036854775807 ≤ c := by omega
 have hc' : c ≤ 9223372036854775807 := by omega
 simp only [impl_InsOk.f,impl_InsOk.j0,impl_InsOk.j1,impl_InsOk.j2,impl_named.f,impl_named.j0,impl_named.j1,impl_named.j2,impl_named.j3,impl_isReg_eq,impl_ofChan_eq,impl_within_eq,Option.bind_some,inn,insOk,decide_eq_true_eq,wrap_pred hc hc',wrap_pred hp hp']
 rcases op_cases op with rfl | rfl | rfl | rfl | rfl | rfl | rfl | rfl | rfl | rfl | rfl | rfl | rfl | h
 case inr.inr.inr.inr.inr.inr.inr.inr.inr.inr.inr.inr.inr =>
  have h' : ¬ InsR op r a b n p c := by unfold InsR;omega
  simp only [if_neg (show ¬ (1 ≤ op ∧ op ≤ 13) by omega),decide_eq_false h',if_true]
  repeat' split
  all_goals rfl
 all_goals
  simp only [InsR]
  simp
  repeat' split
  all_goals first
   | (congr 1;rw [Bool.eq_iff_iff];simp;omega)
   | (simp;omega)
def insIn (p c : Int) (x : S192) : Bool := insOk x.f0 x.f1 x.f2 x.f3 x.f4 p c
def lastOk (l : List S192) : Bool := decide ((l.getD (l.length - 1) z192).f0 = 13 ∨ (l.getD (l.length - 1) z192).f0 = 11)
def bodyOk (l : List S192) (c : Int) : Bool := l.all (insIn (l.length : Int) c) && (inn (l.length : Int) 1 24 && inn c 0 3 && lastOk l)
theorem rd_ins (l : List S192) (j : Nat) (h : j < l.length) : rd_T192 l (j : Int) = l[j] := by simp [rd_T192,List.getD_eq_getElem?_getD,h]
theorem last_ok (l : List S192) : (if (l.getD (l.length - 1) z192).f0 = 13 then some true else some ((l.getD (l.length - 1) z192).f0 == 11)) = some (lastOk l) := by
 unfold lastOk
 generalize (l.getD (l.length - 1) z192).f0 = q
 by_cases h : q = 13
 ·rw [if_pos h,decide_eq_true (.inl h)]
 ·rw [if_neg h]
  congr 1
  rw [Bool.eq_iff_iff]
  simp [h]
theorem rd_last (l : List S192) (h : 1 ≤ l.length) : rd_T192 l ((l.length : Int) - 1) = l.getD (l.length - 1) z192 := by
 rw [rd_T192,show ((l.length : Int) - 1).toNat = l.length - 1 by omega]
theorem spec_BodyOk_ev (l : List S192) (c : Int) (hl : l.length ≤ 1048576) : Ev (fun k => spec_BodyOk.f k l c) (bodyOk l c) := by
 refine all_loop (L := fun j k => spec_BodyOk.l0 k l c (l.length : Int) (j : Int)) l (insIn (l.length : Int) c) ?_ (fun j hj hp r ih => ?_) (fun j hj hp => ?_)
 ·refine Ev.one fun k => ?_
  simp only [spec_BodyOk.l0,spec_l1In_eq,Option.bind_some]
  rw [if_neg (by omega)]
  by_cases h1 : inn (l.length : Int) 1 24 = true
  ·have h1' : 1 ≤ (l.length : Int) := by simp only [inn,decide_eq_true_eq] at h1;exact h1.1
   by_cases h2 : inn c 0 3 = true
   ·rw [if_pos h1,if_pos h2,wrap_in (by omega) (by omega),if_pos (by omega),if_pos (by omega),rd_last l (by omega),last_ok,h1,h2]
    rfl
   ·rw [if_pos h1,if_neg h2,h1,show inn c 0 3 = false by simpa using h2]
    rfl
  ·rw [if_neg h1,show inn (l.length : Int) 1 24 = false by simpa using h1]
   rfl
 ·refine Ev.step (fun k => by simp only [spec_BodyOk.l0];rw [if_pos (by omega),if_pos (by omega),if_pos (by omega),rd_ins l j hj]) (Ev.bind (spec_InsOk_ev _ _ _ _ _ _ _) ?_)
  refine Ev.ite_pos hp ?_
  rw [wrapS hj (by omega)]
  exact ih
 ·refine Ev.step (fun k => by simp only [spec_BodyOk.l0];rw [if_pos (by omega),if_pos (by omega),if_pos (by omega),rd_ins l j hj]) (Ev.bind (spec_InsOk_ev _ _ _ _ _ _ _) ?_)
  exact Ev.ite_neg (fun e => by have e' : insIn (l.length : Int) c l[j] = true := e;rw [hp] at e';cases e') (Ev.now _)
theorem impl_BodyOk_ev (l : List S192) (c : Int) (hl : l.length ≤ 1048576) : Ev (fun k => impl_BodyOk.f k l c) (bodyOk l c) := by
 simp only [impl_BodyOk.f,impl_within_eq,Option.bind_some]
 by_cases h2 : inn c 0 3 = true
 ·have h2' : 0 ≤ c ∧ c ≤ 3 := by simpa [inn] using h2
  refine Ev.ite_pos h2 ?_
  by_cases h1 : inn (l.length : Int) 1 24 = true
  ·have h1' : 1 ≤ (l.length : Int) := by simp only [inn,decide_eq_true_eq] at h1;exact h1.1
   rw [h1]
   refine Ev.step (fun k => by rw [impl_BodyOk.j0,if_neg (by simp)]) ?_
   refine Ev.val (r := l.all (insIn (l.length : Int) c) && lastOk l) (by unfold bodyOk;rw [h1,h2];simp) ?_
   refine all_loop (L := fun j k => impl_BodyOk.l0 k l c l (l.length : Int) (j : Int)) l (insIn (l.length : Int) c) ?_ (fun j hj hp r ih => ?_) (fun j hj hp => ?_)
   ·refine Ev.one fun k => ?_
    simp only [impl_BodyOk.l0]
    rw [if_neg (by omega),wrap_in (by omega) (by omega),if_pos (by omega),if_pos (by omega),rd_last l (by omega),last_ok]
   ·refine Ev.step (fun k => by simp only [impl_BodyOk.l0];rw [if_pos (by omega),if_pos (by omega),if_pos (by omega),rd_ins l j hj]) (Ev.bind (impl_InsOk_ev _ _ _ _ _ _ _ (by omega) (by omega)) ?_)
    refine Ev.ite_pos hp ?_
    rw [wrapS hj (by omega)]
    exact ih
   ·refine Ev.step (fun k => by simp only [impl_BodyOk.l0];rw [if_pos (by omega),if_pos (by omega),if_pos (by omega),rd_ins l j hj]) (Ev.bind (impl_InsOk_ev _ _ _ _ _ _ _ (by omega) (by omega)) ?_)
    exact Ev.ite_neg (fun e => by have e' : insIn (l.length : Int) c l[j] = true := e;rw [hp] at e';cases e') (Ev.now _)
  ·have h1' : inn (l.length : Int) 1 24 = false := by simpa using h1
   rw [h1']
   refine Ev.one fun k => ?_
   rw [impl_BodyOk.j0,if_pos (by simp),bodyOk,h1']
   simp
 ·have h2' : inn c 0 3 = false := by simpa using h2
  refine Ev.ite_neg h2 ?_
  refine Ev.one fun k => ?_
  rw [impl_BodyOk.j0,if_pos rfl,bodyOk,h2']
  simp
def capOk (c : Int) : Bool := inn c 1 4
def progOk (cs : List Int) (bs : List (List S192)) : Bool := cs.all capOk && (bs.all (fun b => bodyOk b (cs.length : Int)) && (decide ((cs.length : Int) ≤ 3) && inn (bs.length : Int) 1 4))
theorem rd_body (m : List (List S192)) (j : Nat) (h : j < m.length) : rd_L4 m (j : Int) = m[j] := by simp [rd_L4,List.getD_eq_getElem?_getD,h]
theorem impl_capsOk_ev (l : List Int) (h : l.length ≤ 9223372036854775807) : Ev (fun k => impl_capsOk.f k l) (l.all capOk) := by
  have key := count_up (L := fun j k => impl_capsOk.l0 k l (l.length : Int) (j : Int)) (R := fun j => allFrom capOk l j) (n := l.length)
    (Ev.one fun k => by simp [impl_capsOk.l0,allFrom_end])
    (fun j hj ih => by
      by_cases e : capOk l[j] = true
      · exact Ev.step (fun k => by
          simp only [impl_capsOk.l0]
          rw [if_pos (by omega),if_pos (by omega),if_pos (by omega),rd_get hj,impl_within_eq,Option.bind_some,show inn l[j] 1 4 = true from e,if_pos rfl,wrapS hj (by omega)]) (by rw [allFrom_step hj,e,Bool.true_and];exact ih)
      · refine Ev.one fun k => ?_
        simp only [impl_capsOk.l0]
        rw [if_pos (by omega),if_pos (by omega),if_pos (by omega),rd_get hj,impl_within_eq,Option.bind_some,if_neg (show ¬ inn l[j] 1 4 = true from e),allFrom_step hj]
        simp [e])
  exact key 0 (Nat.zero_le _)
theorem spec_ProgOk_ev (cs : List Int) (bs : List (List S192)) (hc : cs.length ≤ 1048576) (hb : bs.length ≤ 1048576) (hbs : ∀ b ∈ bs,b.length ≤ 1048576) : Ev (fun k => spec_ProgOk.f k cs bs) (progOk cs bs) := by
 refine all_loop (L := fun j k => spec_ProgOk.l0 k (j : Int) cs bs) cs capOk ?_ (fun j hj hp r ih => ?_) (fun j hj hp => ?_)
 ·refine Ev.step (f := fun k => spec_ProgOk.l1 k 0 cs bs) (fun k => by simp only [spec_ProgOk.l0];rw [if_neg (by omega)]) ?_
  refine all_loop (L := fun j k => spec_ProgOk.l1 k (j : Int) cs bs) bs (fun b => bodyOk b (cs.length : Int)) ?_ (fun j hj hp r ih => ?_) (fun j hj hp => ?_)
  ·refine Ev.one fun k => ?_
   simp only [spec_ProgOk.l1,spec_l1In_eq,Option.bind_some]
   rw [if_neg (by omega)]
   by_cases h : (cs.length : Int) ≤ 3
   ·rw [if_pos h,decide_eq_true h,Bool.true_and]
   ·rw [if_neg h,decide_eq_false h,Bool.false_and]
  ·refine Ev.step (fun k => by simp only [spec_ProgOk.l1];rw [if_pos (by omega),if_pos (by omega),rd_body bs j hj]) (Ev.bind (spec_BodyOk_ev _ _ (hbs _ (List.getElem_mem hj))) ?_)
   refine Ev.ite_pos hp ?_
   rw [wrapS hj (by omega)]
   exact ih
  ·refine Ev.step (fun k => by simp only [spec_ProgOk.l1];rw [if_pos (by omega),if_pos (by omega),rd_body bs j hj]) (Ev.bind (spec_BodyOk_ev _ _ (hbs _ (List.getElem_mem hj))) ?_)
   exact Ev.ite_neg (by rw [hp];simp) (Ev.now _)
 ·refine Ev.step (fun k => by simp only [spec_ProgOk.l0,spec_l1In_eq,Option.bind_some];rw [if_pos (by omega),if_pos (by omega),rd_get hj,if_pos (show inn cs[j] 1 4 = true from hp),wrapS hj (by omega)]) ih
 ·refine Ev.one fun k => ?_
  simp only [spec_ProgOk.l0,spec_l1In_eq,Option.bind_some]
  rw [if_pos (by omega),if_pos (by omega),rd_get hj,if_neg (fun e => by have e' : capOk cs[j] = true := e;rw [hp] at e';cases e')]
theorem impl_ProgOk_ev (cs : List Int) (bs : List (List S192)) (hc : cs.length ≤ 1048576) (hb : bs.length ≤ 1048576) (hbs : ∀ b ∈ bs,b.length ≤ 1048576) : Ev (fun k => impl_ProgOk.f k cs bs) (progOk cs bs) := by
 refine Ev.val (r := bs.all (fun b => bodyOk b (cs.length : Int)) && (decide ((cs.length : Int) ≤ 3) && (cs.all capOk && inn (bs.length : Int) 1 4))) (by
  unfold progOk
  cases cs.all capOk <;> cases bs.all (fun b => bodyOk b (cs.length : Int)) <;> cases decide ((cs.length : Int) ≤ 3) <;> rfl) ?_
 refine all_loop (L := fun j k => impl_ProgOk.l0 k bs (bs.length : Int) (j : Int) cs bs) bs (fun b => bodyOk b (cs.length : Int)) ?_ (fun j hj hp r ih => ?_) (fun j hj hp => ?_)
 ·by_cases h : (cs.length : Int) ≤ 3
  ·refine Ev.step (fun k => by simp only [impl_ProgOk.l0,impl_within_eq,Option.bind_some];rw [if_neg (by omega),if_pos h]) (Ev.bind (impl_capsOk_ev cs (by omega)) ?_)
   rw [decide_eq_true h,Bool.true_and]
   by_cases hp : cs.all capOk = true
   ·rw [hp]
    exact Ev.ite_pos rfl (Ev.now _)
   ·rw [show cs.all capOk = false by simpa using hp]
    exact Ev.ite_neg (by simp) (Ev.now _)
  ·refine Ev.one fun k => ?_
   simp only [impl_ProgOk.l0]
   rw [if_neg (by omega),if_neg h,decide_eq_false h,Bool.false_and]
 ·refine Ev.step (fun k => by simp only [impl_ProgOk.l0];rw [if_pos (by omega),if_pos (by omega),if_pos (by omega),rd_body bs j hj]) (Ev.bind (impl_BodyOk_ev _ _ (hbs _ (List.getElem_mem hj))) ?_)
  refine Ev.ite_pos hp ?_
  rw [wrapS hj (by omega)]
  exact ih
 ·refine Ev.step (fun k => by simp only [impl_ProgOk.l0];rw [if_pos (by omega),if_pos (by omega),if_pos (by omega),rd_body bs j hj]) (Ev.bind (impl_BodyOk_ev _ _ (hbs _ (List.getElem_mem hj))) ?_)
  exact Ev.ite_neg (by rw [hp];simp) (Ev.now _)
theorem bodies_small (xs : List (List S208)) (h : xs.length + total wlInsS xs ≤ 1048576) : (xs.map cvInsS).length ≤ 1048576 ∧ ∀ b ∈ xs.map cvInsS,b.length ≤ 1048576 := by
 refine ⟨by simp;omega,fun c hc => ?_⟩
 obtain ⟨y,hy,rfl⟩ := List.mem_map.1 hc
 have h1 := total_mem wlInsS hy
 have h2 : wlInsS y = y.length := rfl
 simp [cvInsS]
 omega
theorem bodies_eq (xs : List (List S208)) (h : xs.length + total wlInsS xs ≤ 1048576) : (xs.map cvInsS).length + total wiInsS (xs.map cvInsS) ≤ 1048576 := by
 rw [List.length_map,total_map wlInsS wiInsS cvInsS w_cvInsS]
 exact h
def chanOk (c : Int) (l : List Int) : Bool := inn c 1 4 && decide ((l.length : Int) ≤ c)
def sendOf (c : Int) (l : List Int) (cl : Bool) (v : Int) : Int × List Int × Bool × Int := if (cl || !chanOk c l) = true then (c,l,cl,2) else if (l.length : Int) = c then (c,l,cl,1) else (c,l ++ [v],cl,0)
def takeOf (c : Int) (l : List Int) (cl : Bool) : Int × List Int × Bool × Int × Int := if chanOk c l = true then (if (l.length : Int) > 0 then (c,l.drop 1,cl,l.getD 0 0,0) else if cl = true then (c,l,cl,0,3) else (c,l,cl,0,1)) else (c,l,cl,0,2)
def closeOf (c : Int) (l : List Int) (cl : Bool) : Int × List Int × Bool × Int := if (cl || !chanOk c l) = true then (c,l,cl,2) else (c,l,true,0)
theorem spec_ChanOk_eq (c : Int) (l : List Int) (cl : Bool) : spec_ChanOk.f c l cl = some (chanOk c l) := by
 unfold spec_ChanOk.f chanOk
 rw [spec_l1In_eq,Option.bind_some]
 cases inn c 1 4 <;> simp
theorem impl_ChanOk_eq (c : Int) (l : List Int) (cl : Bool) : impl_ChanOk.f c l cl = some (chanOk c l) := by
 unfold impl_ChanOk.f chanOk
 rw [impl_within_eq,Option.bind_some]
 cases inn c 1 4 <;> simp
def noteIn (n : Int) (x : S35) : Bool := inn x.f0 0 (n - 1)
theorem rd_note (l : List S35) (j : Nat) (h : j < l.length) : rd_T35 l (j : Int) = l[j] := by simp [rd_T35,List.getD_eq_getElem?_getD,h]
theorem impl_notesOk_ev (l : List S35) (n : Int) (hl : l.length ≤ 1048576) (h0 : 0 ≤ n) (h1 : n ≤ 1048576) : Ev (fun k => impl_notesOk.f k l n) (l.all (noteIn n) && decide ((l.length : Int) ≤ 4000)) := by
 simp only [impl_notesOk.f]
 refine all_loop (L := fun j k => impl_notesOk.l0 k l n l (l.length : Int) (j : Int)) l (noteIn n) ?_ (fun j hj hp r ih => ?_) (fun j hj hp => ?_)
 ·exact Ev.one fun k => by rw [impl_notesOk.l0,if_neg (by omega)]
 ·have hp' : inn l[j].f0 0 (n - 1) = true := hp
  exact Ev.step (fun k => by rw [impl_notesOk.l0,if_pos (by omega),if_pos (by omega),if_pos (by omega),rd_note l j hj,wrap_in (n := n - 1) (by omega) (by omega),impl_within_eq,Option.bind_some,if_pos hp',wrapS hj (by omega)]) ih
 ·have hp' : inn l[j].f0 0 (n - 1) = false := hp
  exact Ev.one fun k => by rw [impl_notesOk.l0,if_pos (by omega),if_pos (by omega),if_pos (by omega),rd_note l j hj,wrap_in (n := n - 1) (by omega) (by omega),impl_within_eq,Option.bind_some,if_neg (by rw [hp'];simp)]
def thrIn (bs : List (List S192)) (ts : List S107) (i : Nat) : Bool := decide (((ts.getD i z107).f1.length : Int) = 4) && (inn (ts.getD i z107).f2 0 2 && inn (ts.getD i z107).f0 0 (((bs.getD i []).length : Int) - 1))
def chIn (cs : List Int) (chs : List S94) (i : Nat) : Bool := chanOk (chs.getD i z94).f0 (chs.getD i z94).f1 && decide ((chs.getD i z94).f0 = cs.getD i 0)
theorem rd_thr (l : List S107) (j : Nat) : rd_T107 l (j : Int) = l.getD j z107 := by simp [rd_T107]
theorem rd_chan (l : List S94) (j : Nat) : rd_T94 l (j : Int) = l.getD j z94 := by simp [rd_T94]
theorem rd_bod (m : List (List S192)) (j : Nat) : rd_L4 m (j : Int) = m.getD j [] := by simp [rd_L4]
theorem rd_num (l : List Int) (j : Nat) : rd l (j : Int) = l.getD j 0 := by simp [rd,rdOf]
theorem rng_get {n j : Nat} (h : j < (List.range n).length) : (List.range n)[j] = j := by simp
theorem bod_small {bs : List (List S192)} (h : ∀ b ∈ bs,b.length ≤ 1048576) (j : Nat) : (bs.getD j []).length ≤ 1048576 := by
 rw [List.getD_eq_getElem?_getD]
 cases e : bs[j]? with
 | none => simp
 | some c => exact h c (List.mem_of_getElem? e)
theorem chans_impl (cs : List Int) (bs : List (List S192)) (chs : List S94) (hc : chs.length ≤ 1048576) (he : chs.length = cs.length) : Ev (fun k => impl_SourceOk.l1 k chs (chs.length : Int) 0 cs bs) ((List.range chs.length).all (chIn cs chs) && true) := by
 refine all_loop (L := fun j k => impl_SourceOk.l1 k chs (chs.length : Int) (j : Int) cs bs) (List.range chs.length) (chIn cs chs) ?_ (fun j hj hp r ih => ?_) (fun j hj hp => ?_)
 ·rw [List.length_range]
  exact Ev.one fun k => by rw [impl_SourceOk.l1,if_neg (by omega)]
 ·rw [rng_get] at hp
  rw [List.length_range] at hj
  unfold chIn at hp
  rw [Bool.and_eq_true,decide_eq_true_eq] at hp
  exact Ev.step (fun k => by rw [impl_SourceOk.l1,if_pos (by omega),if_pos (by omega),if_pos (by omega),rd_chan,impl_ChanOk_eq,Option.bind_some,if_pos hp.1,if_pos (by omega),rd_num,if_pos hp.2,wrapS hj (by omega)]) ih
 ·rw [rng_get] at hp
  rw [List.length_range] at hj
  refine Ev.one fun k => ?_
  rw [impl_SourceOk.l1,if_pos (by omega),if_pos (by omega),if_pos (by omega),rd_chan,impl_ChanOk_eq,Option.bind_some]
  unfold chIn at hp
  by_cases h1 : chanOk (chs.getD j z94).f0 (chs.getD j z94).f1 = true
  ·rw [h1,Bool.true_and,decide_eq_false_iff_not] at hp
   rw [if_pos h1,if_pos (by omega),rd_num,if_neg hp]
  ·rw [if_neg h1]
theorem threads_impl (cs : List Int) (bs : List (List S192)) (ts : List S107) (chs : List S94) (nts : List S35) (hb : ∀ b ∈ bs,b.length ≤ 1048576) (ht : ts.length ≤ 1048576) (hc : chs.length ≤ 1048576) (he : ts.length = bs.length) (hf : chs.length = cs.length) :
  Ev (fun k => impl_SourceOk.l0 k ts (ts.length : Int) 0 cs bs ts chs nts) ((List.range ts.length).all (thrIn bs ts) && ((List.range chs.length).all (chIn cs chs) && true)) := by
 have jt : ∀ j : Int,Ev (fun k => impl_SourceOk.j2 k ts (ts.length : Int) j true cs bs ts chs nts) false := fun j => Ev.one fun k => by rw [impl_SourceOk.j2,if_pos rfl]
 refine all_loop (L := fun j k => impl_SourceOk.l0 k ts (ts.length : Int) (j : Int) cs bs ts chs nts) (List.range ts.length) (thrIn bs ts) ?_ (fun j hj hp r ih => ?_) (fun j hj hp => ?_)
 ·rw [List.length_range]
  exact Ev.step (fun k => by rw [impl_SourceOk.l0,if_neg (by omega)]) (chans_impl cs bs chs hc hf)
 ·rw [rng_get] at hp
  rw [List.length_range] at hj
  have hs := bod_small hb j
  unfold thrIn at hp
  simp only [Bool.and_eq_true,decide_eq_true_eq] at hp
  obtain ⟨a,b,c⟩ := hp
  refine Ev.step (fun k => by rw [impl_SourceOk.l0,if_pos (by omega),if_pos (by omega),if_pos (by omega),rd_thr,rd_bod,wrap_in (n := ((bs.getD j []).length : Int) - 1) (by omega) (by omega)]) ?_
  refine Ev.ite_pos a ?_
  simp only [impl_within_eq,Option.bind_some,b,c,if_true,Bool.not_true]
  refine Ev.ite_pos (by omega) ?_
  refine Ev.step (fun k => by rw [impl_SourceOk.j2,if_neg (by simp),wrapS hj (by omega)]) ih
 ·rw [rng_get] at hp
  rw [List.length_range] at hj
  have hs := bod_small hb j
  unfold thrIn at hp
  refine Ev.step (fun k => by rw [impl_SourceOk.l0,if_pos (by omega),if_pos (by omega),if_pos (by omega),rd_thr,rd_bod,wrap_in (n := ((bs.getD j []).length : Int) - 1) (by omega) (by omega)]) ?_
  by_cases a : ((ts.getD j z107).f1.length : Int) = 4
  ·refine Ev.ite_pos a ?_
   simp only [impl_within_eq,Option.bind_some]
   rw [decide_eq_true a,Bool.true_and] at hp
   by_cases b : inn (ts.getD j z107).f2 0 2 = true
   ·rw [b,Bool.true_and] at hp
    refine Ev.ite_pos b (Ev.ite_pos (by omega) ?_)
    rw [hp]
    exact jt _
   ·exact Ev.ite_neg b (jt _)
  ·exact Ev.ite_neg a (jt _)
def sourceOk (cs : List Int) (bs : List (List S192)) (ts : List S107) (chs : List S94) (nts : List S35) : Bool :=
  progOk cs bs && (decide ((ts.length : Int) = (bs.length : Int)) && (decide ((chs.length : Int) = (cs.length : Int)) && ((nts.all (noteIn (ts.length : Int)) && decide ((nts.length : Int) ≤ 4000)) && ((List.range ts.length).all (thrIn bs ts) && ((List.range chs.length).all (chIn cs chs) && true)))))
theorem impl_SourceOk_ev (cs : List Int) (bs : List (List S192)) (ts : List S107) (chs : List S94) (nts : List S35) (hcs : cs.length ≤ 1048576) (hbl : bs.length ≤ 1048576) (hb : ∀ b ∈ bs,b.length ≤ 1048576) (ht : ts.length ≤ 1048576) (hc : chs.length ≤ 1048576) (hn : nts.length ≤ 1048576) : Ev (fun k => impl_SourceOk.f k cs bs ts chs nts) (sourceOk cs bs ts chs nts) := by
 have jt : Ev (fun k => impl_SourceOk.j0 k true cs bs ts chs nts) false := Ev.one fun k => by rw [impl_SourceOk.j0,if_pos rfl]
 simp only [impl_SourceOk.f]
 refine Ev.bind (impl_ProgOk_ev cs bs hcs hbl hb) ?_
 unfold sourceOk
 by_cases h1 : progOk cs bs = true
 case neg =>
  rw [Bool.eq_false_iff.mpr h1,Bool.false_and]
  exact Ev.ite_neg (by simp) jt
 rw [h1,Bool.true_and]
 refine Ev.ite_pos rfl ?_
 by_cases h2 : (ts.length : Int) = (bs.length : Int)
 case neg =>
  rw [decide_eq_false h2,Bool.false_and]
  exact Ev.ite_neg h2 jt
 rw [decide_eq_true h2,Bool.true_and]
 refine Ev.ite_pos h2 ?_
 by_cases h3 : (chs.length : Int) = (cs.length : Int)
 case neg =>
  rw [decide_eq_false h3,Bool.false_and]
  exact Ev.ite_neg h3 jt
 rw [decide_eq_true h3,Bool.true_and]
 refine Ev.ite_pos h3 ?_
 refine Ev.bind (impl_notesOk_ev nts (ts.length : Int) hn (by omega) (by omega)) ?_
 cases (nts.all (noteIn (ts.length : Int)) && decide ((nts.length : Int) ≤ 4000)) with
 | false => rw [Bool.false_and];exact jt
 | true =>
  rw [Bool.true_and]
  exact Ev.step (fun k => by rw [impl_SourceOk.j0,if_neg (by simp)]) (threads_impl cs bs ts chs nts hb ht hc (by omega) (by omega))
theorem notes_spec (ts : List S107) (chs : List S94) (nts : List S35) (ht : ts.length ≤ 1048576) (hn : nts.length ≤ 1048576) : Ev (fun k => spec_SourceOk.l2 k 0 ts chs nts) (nts.all (noteIn (ts.length : Int)) && true) := by
 refine all_loop (L := fun j k => spec_SourceOk.l2 k (j : Int) ts chs nts) nts (noteIn (ts.length : Int)) ?_ (fun j hj hp r ih => ?_) (fun j hj hp => ?_)
 ·exact Ev.one fun k => by rw [spec_SourceOk.l2,if_neg (by omega)]
 ·have hp' : inn nts[j].f0 0 ((ts.length : Int) - 1) = true := hp
  exact Ev.step (fun k => by rw [spec_SourceOk.l2,if_pos (by omega),if_pos (by omega),rd_note nts j hj,wrap_in (n := (ts.length : Int) - 1) (by omega) (by omega),spec_l1In_eq,Option.bind_some,if_pos hp',wrapS hj (by omega)]) ih
 ·have hp' : inn nts[j].f0 0 ((ts.length : Int) - 1) = false := hp
  exact Ev.one fun k => by rw [spec_SourceOk.l2,if_pos (by omega),if_pos (by omega),rd_note nts j hj,wrap_in (n := (ts.length : Int) - 1) (by omega) (by omega),spec_l1In_eq,Option.bind_some,if_neg (by rw [hp'];simp)]
theorem chans_spec (cs : List Int) (bs : List (List S192)) (ts : List S107) (chs : List S94) (nts : List S35) (ht : ts.length ≤ 1048576) (hc : chs.length ≤ 1048576) (hn : nts.length ≤ 1048576) (he : chs.length = cs.length) : Ev (fun k => spec_SourceOk.l1 k 0 cs bs ts chs nts) ((List.range chs.length).all (chIn cs chs) && (nts.all (noteIn (ts.length : Int)) && true)) := by
 refine all_loop (L := fun j k => spec_SourceOk.l1 k (j : Int) cs bs ts chs nts) (List.range chs.length) (chIn cs chs) ?_ (fun j hj hp r ih => ?_) (fun j hj hp => ?_)
 ·rw [List.length_range]
  exact Ev.step (fun k => by rw [spec_SourceOk.l1,if_neg (by omega)]) (notes_spec ts chs nts ht hn)
 ·rw [rng_get] at hp
  rw [List.length_range] at hj
  unfold chIn at hp
  rw [Bool.and_eq_true,decide_eq_true_eq] at hp
  exact Ev.step (fun k => by rw [spec_SourceOk.l1,if_pos (by omega),if_pos (by omega),rd_chan,spec_ChanOk_eq,Option.bind_some,if_pos hp.1,if_pos (by omega),rd_num,if_pos hp.2,wrapS hj (by omega)]) ih
 ·rw [rng_get] at hp
  rw [List.length_range] at hj
  refine Ev.one fun k => ?_
  rw [spec_SourceOk.l1,if_pos (by omega),if_pos (by omega),rd_chan,spec_ChanOk_eq,Option.bind_some]
  unfold chIn at hp
  by_cases h1 : chanOk (chs.getD j z94).f0 (chs.getD j z94).f1 = true
  ·rw [h1,Bool.true_and,decide_eq_false_iff_not] at hp
   rw [if_pos h1,if_pos (by omega),rd_num,if_neg hp]
  ·rw [if_neg h1]
theorem threads_spec (cs : List Int) (bs : List (List S192)) (ts : List S107) (chs : List S94) (nts : List S35) (hb : ∀ b ∈ bs,b.length ≤ 1048576) (ht : ts.length ≤ 1048576) (hc : chs.length ≤ 1048576) (hn : nts.length ≤ 1048576) (he : ts.length = bs.length) (hf : chs.length = cs.length) :
  Ev (fun k => spec_SourceOk.l0 k 0 cs bs ts chs nts) ((List.range ts.length).all (thrIn bs ts) && ((List.range chs.length).all (chIn cs chs) && (nts.all (noteIn (ts.length : Int)) && true))) := by
 have jt : ∀ j : Int,Ev (fun k => spec_SourceOk.j2 k j true cs bs ts chs nts) false := fun j => Ev.one fun k => by rw [spec_SourceOk.j2,if_pos rfl]
 refine all_loop (L := fun j k => spec_SourceOk.l0 k (j : Int) cs bs ts chs nts) (List.range ts.length) (thrIn bs ts) ?_ (fun j hj hp r ih => ?_) (fun j hj hp => ?_)
 ·rw [List.length_range]
  exact Ev.step (fun k => by rw [spec_SourceOk.l0,if_neg (by omega)]) (chans_spec cs bs ts chs nts ht hc hn hf)
 ·rw [rng_get] at hp
  rw [List.length_range] at hj
  have hs := bod_small hb j
  unfold thrIn at hp
  simp only [Bool.and_eq_true,decide_eq_true_eq] at hp
  obtain ⟨a,b,c⟩ := hp
  refine Ev.step (fun k => by rw [spec_SourceOk.l0,if_pos (by omega),if_pos (by omega),rd_thr,rd_bod,wrap_in (n := ((bs.getD j []).length : Int) - 1) (by omega) (by omega)]) ?_
  refine Ev.ite_pos a ?_
  simp only [spec_l1In_eq,Option.bind_some,b,c,if_true,Bool.not_true]
  refine Ev.ite_pos (by omega) ?_
  refine Ev.step (fun k => by rw [spec_SourceOk.j2,if_neg (by simp),wrapS hj (by omega)]) ih
 ·rw [rng_get] at hp
  rw [List.length_range] at hj
  have hs := bod_small hb j
  unfold thrIn at hp
  refine Ev.step (fun k => by rw [spec_SourceOk.l0,if_pos (by omega),if_pos (by omega),rd_thr,rd_bod,wrap_in (n := ((bs.getD j []).length : Int) - 1) (by omega) (by omega)]) ?_
  by_cases a : ((ts.getD j z107).f1.length : Int) = 4
  ·refine Ev.ite_pos a ?_
   simp only [spec_l1In_eq,Option.bind_some]
   rw [decide_eq_true a,Bool.true_and] at hp
   by_cases b : inn (ts.getD j z107).f2 0 2 = true
   ·rw [b,Bool.true_and] at hp
    refine Ev.ite_pos b (Ev.ite_pos (by omega) ?_)
    rw [hp]
    exact jt _
   ·exact Ev.ite_neg b (jt _)
  ·exact Ev.ite_neg a (jt _)
theorem spec_SourceOk_ev (cs : List Int) (bs : List (List S192)) (ts : List S107) (chs : List S94) (nts : List S35) (hcs : cs.length ≤ 1048576) (hbl : bs.length ≤ 1048576) (hb : ∀ b ∈ bs,b.length ≤ 1048576) (ht : ts.length ≤ 1048576) (hc : chs.length ≤ 1048576) (hn : nts.length ≤ 1048576) : Ev (fun k => spec_SourceOk.f k cs bs ts chs nts) (sourceOk cs bs ts chs nts) := by
 have jt : Ev (fun k => spec_SourceOk.j0 k true cs bs ts chs nts) false := Ev.one fun k => by rw [spec_SourceOk.j0,if_pos rfl]
 simp only [spec_SourceOk.f]
 refine Ev.bind (spec_ProgOk_ev cs bs hcs hbl hb) ?_
 unfold sourceOk
 by_cases h1 : progOk cs bs = true
 case neg =>
  rw [Bool.eq_false_iff.mpr h1,Bool.false_and]
  exact Ev.ite_neg (by simp) jt
 rw [h1,Bool.true_and]
 refine Ev.ite_pos rfl ?_
 by_cases h2 : (ts.length : Int) = (bs.length : Int)
 case neg =>
  rw [decide_eq_false h2,Bool.false_and]
  exact Ev.ite_neg h2 jt
 rw [decide_eq_true h2,Bool.true_and]
 refine Ev.ite_pos h2 ?_
 by_cases h3 : (chs.length : Int) = (cs.length : Int)
 case neg =>
  rw [decide_eq_false h3,Bool.false_and]
  exact Ev.ite_neg h3 jt
 rw [decide_eq_true h3,Bool.true_and]
 refine Ev.ite_pos h3 ?_
 by_cases h4 : (nts.length : Int) ≤ 4000
 ·rw [decide_eq_false (show ¬ (nts.length : Int) > 4000 by omega),decide_eq_true h4,Bool.and_true]
  refine Ev.val ?_ (Ev.step (fun k => by rw [spec_SourceOk.j0,if_neg (by simp)]) (threads_spec cs bs ts chs nts hb ht hc hn (by omega) (by omega)))
  cases nts.all (noteIn (ts.length : Int)) <;> simp
 ·rw [decide_eq_true (show (nts.length : Int) > 4000 by omega),decide_eq_false h4,Bool.and_false,Bool.false_and]
  exact jt
theorem spec_l3Copy_eq (c : Int) (l : List Int) (cl : Bool) (h : l.length < 17592186044416) : spec_l3Copy.f c l cl = some (c,l,cl) := by
 simp [spec_l3Copy.f,h]
theorem spec_l4Copy_ev (ts : List S107) (chs : List S94) (nts : List S35) (ht : ts.length ≤ 1048576) (hc : chs.length ≤ 1048576) (hn : nts.length ≤ 1048576) (ht1 : ∀ t ∈ ts,t.f1.length ≤ 1048576) (hc1 : ∀ c ∈ chs,c.f1.length ≤ 1048576) :
  Ev (fun k => spec_l4Copy.f k ts chs nts) (ts,chs,nts) := by
 have key2 := count_up (L := fun j k => spec_l4Copy.l1 k (j : Int) ts chs nts ts (chs.take j) nts) (R := fun _ => (ts,chs,nts)) (n := chs.length)
  (Ev.one fun k => by
   simp only [spec_l4Copy.l1]
   rw [if_neg (by omega),List.take_length])
  (fun i hi ih => Ev.step (fun k => by
   have hs := hc1 chs[i] (List.getElem_mem hi)
   have e : rd_T94 chs (i : Int) = chs[i] := by rw [rd_chan,List.getD_eq_getElem?_getD,List.getElem?_eq_getElem hi];rfl
   simp only [spec_l4Copy.l1]
   rw [if_pos (by omega),if_pos (by omega),e,spec_l3Copy_eq _ _ _ (by omega),Option.bind_some,if_pos (by rw [List.length_take];omega),wrapS hi (by omega)]
   rw [show ([⟨chs[i].f0,chs[i].f1,chs[i].f2⟩] : List S94) = [chs[i]] from rfl,← List.take_succ_eq_append_getElem hi]) ih)
 have key := count_up (L := fun j k => spec_l4Copy.l0 k (j : Int) ts chs nts (ts.take j) nts) (R := fun _ => (ts,chs,nts)) (n := ts.length)
  (Ev.step (fun k => by
   simp only [spec_l4Copy.l0]
   rw [if_neg (by omega),List.take_length]
   rfl) (key2 0 (Nat.zero_le _)))
  (fun i hi ih => Ev.step (fun k => by
   have hs := ht1 ts[i] (List.getElem_mem hi)
   have e : rd_T107 ts (i : Int) = ts[i] := by rw [rd_thr,List.getD_eq_getElem?_getD,List.getElem?_eq_getElem hi];rfl
   simp only [spec_l4Copy.l0,Option.bind_some]
   rw [if_pos (by omega),if_pos (by omega),e,if_pos (by simp;omega),if_pos (by rw [List.length_take];omega),wrapS hi (by omega),List.nil_append]
   rw [show ([⟨ts[i].f0,ts[i].f1,ts[i].f2⟩] : List S107) = [ts[i]] from rfl,← List.take_succ_eq_append_getElem hi]) ih)
 simp only [spec_l4Copy.f,Option.bind_some,List.nil_append]
 exact Ev.ite_pos (by simp;omega) (key 0 (Nat.zero_le _))
theorem thr_at {ts : List S107} {i : Nat} (h : i < ts.length) : rd_T107 ts (i : Int) = ts[i] := by rw [rd_thr,List.getD_eq_getElem?_getD,List.getElem?_eq_getElem h];rfl
theorem bod_at {bs : List (List S192)} {i : Nat} (h : i < bs.length) : rd_L4 bs (i : Int) = bs[i] := by rw [rd_bod,List.getD_eq_getElem?_getD,List.getElem?_eq_getElem h];rfl
theorem go_total (bs : List (List S192)) (ts : List S107) (i : Nat) (nx : Int) (hi : i < ts.length) (hb : i < bs.length) : ∃ t,spec_l4Go.f bs ts (i : Int) nx = some t := by
 unfold spec_l4Go.f
 rw [if_pos (by omega),if_pos (by omega),spec_l1In_eq,Option.bind_some,if_pos (by omega)]
 split
 ·exact ⟨_,rfl⟩
 ·exact ⟨_,rfl⟩
theorem goes_total (bs : List (List S192)) (ts : List S107) (cs : List S94) (ns : List S35) (i : Nat) (nx : Int) (hi : i < ts.length) (hb : i < bs.length) : ∃ t,spec_l4Step.go bs ts cs ns (i : Int) nx = some (t,cs,ns,0) := by
 obtain ⟨t,h⟩ := go_total bs ts i nx hi hb
 exact ⟨t,by unfold spec_l4Step.go;rw [h];rfl⟩
theorem spec_ChanSend_ev (c : Int) (l : List Int) (cl : Bool) (v : Int) (h : l.length < 17592186044416) : Ev (fun k => spec_ChanSend.f k c l cl v) (sendOf c l cl v) := by
 refine ⟨1,fun k hk => ?_⟩
 obtain ⟨m,rfl⟩ : ∃ m,k = m + 1 := ⟨k - 1,by omega⟩
 simp only [spec_ChanSend.f,spec_ChanSend.j0,spec_l3Copy_eq c l cl h,spec_ChanOk_eq,Option.bind_some,sendOf]
 cases cl <;> cases chanOk c l <;> simp [h] <;> split <;> rfl
theorem spec_ChanTake_eq (c : Int) (l : List Int) (cl : Bool) (h : l.length < 17592186044416) : spec_ChanTake.f c l cl = some (takeOf c l cl) := by
 simp only [spec_ChanTake.f,spec_l3Copy_eq c l cl h,spec_ChanOk_eq,Option.bind_some,takeOf]
 by_cases ho : chanOk c l = true
 ·rw [if_pos ho,if_pos ho]
  by_cases hl : (l.length : Int) > 0
  ·rw [if_pos hl,if_pos hl,if_pos (by omega),if_pos (by simp;omega),if_pos (by omega)]
   simp [rd]
  ·rw [if_neg hl,if_neg hl]
   cases cl <;> rfl
 ·rw [if_neg ho,if_neg ho]
theorem spec_ChanClose_eq (c : Int) (l : List Int) (cl : Bool) (h : l.length < 17592186044416) : spec_ChanClose.f c l cl = some (closeOf c l cl) := by
 simp only [spec_ChanClose.f,spec_l3Copy_eq c l cl h,spec_ChanOk_eq,Option.bind_some,closeOf]
 cases cl <;> cases chanOk c l <;> simp
theorem chan_at {cs : List S94} {i : Nat} (h : i < cs.length) : rd_T94 cs (i : Int) = cs[i] := by rw [rd_chan,List.getD_eq_getElem?_getD,List.getElem?_eq_getElem h];rfl
theorem bit_total (b : Bool) : ∃ y,spec_l4Bit.f b = some y := by unfold spec_l4Bit.f;split <;> exact ⟨_,rfl⟩
def waitsAt (op : Int) (c : S94) : Bool := !c.f2 && ((op == 5 && decide ((c.f1.length : Int) = c.f0)) || (op == 6 && decide ((c.f1.length : Int) = 0)))
theorem take_how {c : Int} {l : List Int} {v : Bool} (hc : chanOk c l = true) : (takeOf c l v).2.2.2.2 = 1 ↔ (v = false ∧ l = []) := by
 unfold takeOf
 rw [if_pos hc]
 by_cases h : (l.length : Int) > 0
 ·rw [if_pos h]
  have : l ≠ [] := by rintro rfl;simp at h
  simp [this]
 ·rw [if_neg h]
  have : l = [] := List.eq_nil_of_length_eq_zero (by omega)
  cases v <;> simp [this]
theorem take_hows {c : Int} {l : List Int} {v : Bool} (hc : chanOk c l = true) : 0 ≤ (takeOf c l v).2.2.2.2 ∧ (takeOf c l v).2.2.2.2 < 4 := by
 unfold takeOf
 rw [if_pos hc]
 repeat' split
 all_goals simp
theorem chan_total (ts : List S107) (cs : List S94) (i n : Nat) (op r a b : Int) (hi : i < ts.length) (hn : n < cs.length) (hr : ts[i].f1.length = 4) (hc : chanOk cs[n].f0 cs[n].f1 = true) (hl : cs[n].f1.length ≤ 1048576)
  (r0 : 0 ≤ r) (r1 : r ≤ 3) (a0 : 0 ≤ a) (a1 : a ≤ 3) (b0 : 0 ≤ b) (b1 : b ≤ 3) (ho : op = 5 ∨ op = 6 ∨ op = 7 ∨ op = 8 ∨ op = 9) :
  ∃ t c how,Ev (fun k => spec_l4Chan.f k ts cs (i : Int) op r a b (n : Int)) (t,c,how) ∧ t.length = ts.length ∧ (how = 1 ↔ waitsAt op cs[n] = true) := by
 have e1 : rd_T107 ts (i : Int) = ts[i] := thr_at hi
 have e2 : rd_T94 cs (n : Int) = cs[n] := chan_at hn
 have take_eq := spec_ChanTake_eq cs[n].f0 cs[n].f1 cs[n].f2 (by omega)
 have close_eq := spec_ChanClose_eq cs[n].f0 cs[n].f1 cs[n].f2 (by omega)
 have send_ev : ∀ v,Ev (fun k => spec_ChanSend.f k cs[n].f0 cs[n].f1 cs[n].f2 v) (sendOf cs[n].f0 cs[n].f1 cs[n].f2 v) := fun v => spec_ChanSend_ev _ _ _ _ (by omega)
 have ht : ∀ (x : S107),(ts.set i x).length = ts.length := fun x => List.length_set
 rcases ho with rfl | rfl | rfl | rfl | rfl
 ·refine ⟨ts,cs.set n ⟨(sendOf cs[n].f0 cs[n].f1 cs[n].f2 (rd ts[i].f1 a)).1,(sendOf cs[n].f0 cs[n].f1 cs[n].f2 (rd ts[i].f1 a)).2.1,(sendOf cs[n].f0 cs[n].f1 cs[n].f2 (rd ts[i].f1 a)).2.2.1⟩,(sendOf cs[n].f0 cs[n].f1 cs[n].f2 (rd ts[i].f1 a)).2.2.2,?_,rfl,?_⟩
  ·simp only [spec_l4Chan.f]
   rw [e1,e2]
   refine Ev.ite_pos (by omega) (Ev.ite_pos (by omega) (Ev.ite_pos (by omega) (Ev.ite_pos (by omega) (Ev.ite_pos (by first | rfl | trivial | decide) (Ev.ite_pos a0 (Ev.ite_pos (by omega) ?_))))))
   exact Ev.bind (send_ev _) (Ev.now _)
  ·unfold sendOf waitsAt
   rw [hc]
   cases cs[n].f2
   ·simp
    split <;> simp_all
   ·simp
 ·by_cases h1 : (takeOf cs[n].f0 cs[n].f1 cs[n].f2).2.2.2.2 = 1
  ·refine ⟨ts,cs.set n ⟨(takeOf cs[n].f0 cs[n].f1 cs[n].f2).1,(takeOf cs[n].f0 cs[n].f1 cs[n].f2).2.1,(takeOf cs[n].f0 cs[n].f1 cs[n].f2).2.2.1⟩,1,?_,rfl,?_⟩
   ·simp only [spec_l4Chan.f]
    rw [e1,e2,take_eq]
    refine Ev.ite_pos (by omega) (Ev.ite_pos (by omega) (Ev.ite_pos (by omega) (Ev.ite_pos (by omega) (Ev.ite_neg (by omega) (Ev.ite_neg (by omega) (Ev.ite_neg (by omega) (Ev.ite_pos (by first | rfl | trivial | decide) ?_)))))))
    simp only [Option.bind_some]
    exact Ev.ite_pos h1 (Ev.now _)
   ·have := (take_how hc).1 h1
    simp [waitsAt,this.1,this.2]
  ·obtain ⟨y,hy⟩ := bit_total ((takeOf cs[n].f0 cs[n].f1 cs[n].f2).2.2.2.2 == 0)
   refine ⟨setR (setR ts (i : Int) r (takeOf cs[n].f0 cs[n].f1 cs[n].f2).2.2.2.1) (i : Int) b y,cs.set n ⟨(takeOf cs[n].f0 cs[n].f1 cs[n].f2).1,(takeOf cs[n].f0 cs[n].f1 cs[n].f2).2.1,(takeOf cs[n].f0 cs[n].f1 cs[n].f2).2.2.1⟩,0,?_,by unfold setR;simp,?_⟩
   ·simp only [spec_l4Chan.f]
    rw [e1,e2,take_eq]
    refine Ev.ite_pos (by omega) (Ev.ite_pos (by omega) (Ev.ite_pos (by omega) (Ev.ite_pos (by omega) (Ev.ite_neg (by omega) (Ev.ite_neg (by omega) (Ev.ite_neg (by omega) (Ev.ite_pos (by first | rfl | trivial | decide) ?_)))))))
    simp only [Option.bind_some]
    refine Ev.ite_neg h1 (Ev.ite_pos r0 (Ev.ite_pos (by omega) (Ev.ite_pos b0 (Ev.ite_pos (by omega) ?_))))
    rw [hy]
    exact Ev.now _
   ·refine ⟨fun h => absurd h (by decide),fun h => absurd ((take_how hc).2 ?_) h1⟩
    simp [waitsAt] at h
    exact ⟨h.1,h.2⟩
 ·by_cases h2 : (sendOf cs[n].f0 cs[n].f1 cs[n].f2 (rd ts[i].f1 a)).2.2.2 = 2
  ·refine ⟨ts,cs.set n ⟨(sendOf cs[n].f0 cs[n].f1 cs[n].f2 (rd ts[i].f1 a)).1,(sendOf cs[n].f0 cs[n].f1 cs[n].f2 (rd ts[i].f1 a)).2.1,(sendOf cs[n].f0 cs[n].f1 cs[n].f2 (rd ts[i].f1 a)).2.2.1⟩,2,?_,rfl,by simp [waitsAt]⟩
   simp only [spec_l4Chan.f]
   rw [e1,e2]
   refine Ev.ite_pos (by omega) (Ev.ite_pos (by omega) (Ev.ite_pos (by omega) (Ev.ite_pos (by omega) (Ev.ite_neg (by omega) (Ev.ite_pos (by first | rfl | trivial | decide) (Ev.ite_pos a0 (Ev.ite_pos (by omega) ?_)))))))
   exact Ev.bind (send_ev _) (Ev.ite_pos h2 (Ev.now _))
  ·obtain ⟨y,hy⟩ := bit_total ((sendOf cs[n].f0 cs[n].f1 cs[n].f2 (rd ts[i].f1 a)).2.2.2 == 0)
   refine ⟨setR ts (i : Int) r y,cs.set n ⟨(sendOf cs[n].f0 cs[n].f1 cs[n].f2 (rd ts[i].f1 a)).1,(sendOf cs[n].f0 cs[n].f1 cs[n].f2 (rd ts[i].f1 a)).2.1,(sendOf cs[n].f0 cs[n].f1 cs[n].f2 (rd ts[i].f1 a)).2.2.1⟩,0,?_,by unfold setR;simp,by simp [waitsAt]⟩
   simp only [spec_l4Chan.f]
   rw [e1,e2]
   refine Ev.ite_pos (by omega) (Ev.ite_pos (by omega) (Ev.ite_pos (by omega) (Ev.ite_pos (by omega) (Ev.ite_neg (by omega) (Ev.ite_pos (by first | rfl | trivial | decide) (Ev.ite_pos a0 (Ev.ite_pos (by omega) ?_)))))))
   refine Ev.bind (send_ev _) (Ev.ite_neg h2 (Ev.ite_pos r0 (Ev.ite_pos (by omega) ?_)))
   rw [hy]
   exact Ev.now _
 ·have hq := take_hows (v := cs[n].f2) hc
  refine ⟨setR (setR ts (i : Int) r (takeOf cs[n].f0 cs[n].f1 cs[n].f2).2.2.2.1) (i : Int) b (rd [1,0,0,2] (takeOf cs[n].f0 cs[n].f1 cs[n].f2).2.2.2.2),cs.set n ⟨(takeOf cs[n].f0 cs[n].f1 cs[n].f2).1,(takeOf cs[n].f0 cs[n].f1 cs[n].f2).2.1,(takeOf cs[n].f0 cs[n].f1 cs[n].f2).2.2.1⟩,0,?_,by unfold setR;simp,by simp [waitsAt]⟩
  simp only [spec_l4Chan.f]
  rw [e1,e2,take_eq]
  refine Ev.ite_pos (by omega) (Ev.ite_pos (by omega) (Ev.ite_pos (by omega) (Ev.ite_pos (by omega) (Ev.ite_neg (by omega) (Ev.ite_neg (by omega) (Ev.ite_neg (by omega) (Ev.ite_neg (by omega) ?_)))))))
  simp only [Option.bind_some]
  exact Ev.ite_pos r0 (Ev.ite_pos (by omega) (Ev.ite_pos b0 (Ev.ite_pos (by omega) (Ev.ite_pos hq.1 (Ev.ite_pos hq.2 (Ev.now _))))))
 ·refine ⟨ts,cs.set n ⟨(closeOf cs[n].f0 cs[n].f1 cs[n].f2).1,(closeOf cs[n].f0 cs[n].f1 cs[n].f2).2.1,(closeOf cs[n].f0 cs[n].f1 cs[n].f2).2.2.1⟩,(closeOf cs[n].f0 cs[n].f1 cs[n].f2).2.2.2,?_,rfl,?_⟩
  ·simp only [spec_l4Chan.f]
   rw [e1,e2,close_eq]
   exact Ev.ite_pos (by omega) (Ev.ite_pos (by omega) (Ev.ite_pos (by omega) (Ev.ite_pos (by omega) (Ev.ite_neg (by omega) (Ev.ite_neg (by omega) (Ev.ite_pos (by first | rfl | trivial | decide) (Ev.now _)))))))
  ·unfold closeOf waitsAt
   rw [hc]
   cases cs[n].f2 <;> simp
def codeAt (bs : List (List S192)) (ts : List S107) (cs : List S94) (ns : List S35) (i : Nat) : Int :=
  let t := ts.getD i z107;let x := (bs.getD i []).getD t.f0.toNat z192
  if t.f2 = 0 then (if x.f0 = 10 ∧ (ns.length : Int) = 4000 then 3 else if (x.f0 = 5 ∨ x.f0 = 6) ∧ waitsAt x.f0 (cs.getD x.f4.toNat z94) = true then 4 else 0) else 3
theorem step_total (bs : List (List S192)) (ts : List S107) (cs : List S94) (ns : List S35) (i : Nat) (hi : i < ts.length) (hb : i < bs.length) (hr : ts[i].f1.length = 4) (h0 : 0 ≤ ts[i].f0) (h1 : ts[i].f0 < (bs[i].length : Int)) (hs : ts[i].f2 = 0) (hn : ns.length ≤ 1048576)
  (p : Int) (hx : insIn p (cs.length : Int) (rd_T192 bs[i] ts[i].f0) = true) (hc : ∀ c ∈ cs,chanOk c.f0 c.f1 = true ∧ c.f1.length ≤ 1048576) :
  ∃ t c n z,Ev (fun k => spec_l4Step.f k bs ts cs ns (i : Int)) (t,c,n,z) ∧ z = codeAt bs ts cs ns i := by
 have e1 : rd_T107 ts (i : Int) = ts[i] := thr_at hi
 have e2 : rd_L4 bs (i : Int) = bs[i] := bod_at hb
 have ec : codeAt bs ts cs ns i = (if (rd_T192 bs[i] ts[i].f0).f0 = 10 ∧ (ns.length : Int) = 4000 then 3 else if ((rd_T192 bs[i] ts[i].f0).f0 = 5 ∨ (rd_T192 bs[i] ts[i].f0).f0 = 6) ∧ waitsAt (rd_T192 bs[i] ts[i].f0).f0 (cs.getD (rd_T192 bs[i] ts[i].f0).f4.toNat z94) = true then 4 else 0) := by
  unfold codeAt
  simp only [List.getD_eq_getElem?_getD,List.getElem?_eq_getElem hi,List.getElem?_eq_getElem hb,Option.getD_some,rd_T192,if_pos hs]
 rw [ec]
 generalize hxx : rd_T192 bs[i] ts[i].f0 = x at hx ⊢
 unfold insIn insOk at hx
 have hI := of_decide_eq_true hx
 obtain ⟨hr',ha',hb',hc',hop⟩ := hI
 have G := fun (t : List S107) (ns' : List S35) (nx : Int) (ht : t.length = ts.length) => goes_total bs t cs ns' i nx (by omega) hb
 have sl : ∀ q v,(setR ts (i : Int) q v).length = ts.length := fun q v => by unfold setR;simp
 have pre : ∀ {g : Nat → Option (List S107 × List S94 × List S35 × Int)} {r},Ev g r → Ev (fun k => if 0 ≤ (i : Int) then (if (i : Int) < (ts.length : Int) then (if (i : Int) < (bs.length : Int) then (if 0 ≤ ts[i].f0 then (if ts[i].f0 < (bs[i].length : Int) then g k else none) else none) else none) else none) else none) r :=
  fun h => Ev.ite_pos (by omega) (Ev.ite_pos (by omega) (Ev.ite_pos (by omega) (Ev.ite_pos h0 (Ev.ite_pos h1 h))))
 simp only [spec_l4Step.f,e1,e2,hxx]
 have nc : x.f0 ≠ 10 → x.f0 ≠ 5 → x.f0 ≠ 6 → (0 : Int) = (if x.f0 = 10 ∧ (ns.length : Int) = 4000 then 3 else if (x.f0 = 5 ∨ x.f0 = 6) ∧ waitsAt x.f0 (cs.getD x.f4.toNat z94) = true then 4 else 0) := fun a b c => by
  rw [if_neg (fun h => a h.1),if_neg (fun h => h.1.elim b c)]
 have w1 : ∀ {g : Nat → Option (List S107 × List S94 × List S35 × Int)} {r},Ev g r → Ev (fun k => if 0 ≤ x.f1 then (if x.f1 < (ts[i].f1.length : Int) then g k else none) else none) r := fun h => Ev.ite_pos hr'.1 (Ev.ite_pos (by omega) h)
 have w2 : ∀ {g : Nat → Option (List S107 × List S94 × List S35 × Int)} {r},Ev g r → Ev (fun k => if 0 ≤ x.f2 then (if x.f2 < (ts[i].f1.length : Int) then g k else none) else none) r := fun h => Ev.ite_pos ha'.1 (Ev.ite_pos (by omega) h)
 have w3 : ∀ {g : Nat → Option (List S107 × List S94 × List S35 × Int)} {r},Ev g r → Ev (fun k => if 0 ≤ x.f3 then (if x.f3 < (ts[i].f1.length : Int) then g k else none) else none) r := fun h => Ev.ite_pos hb'.1 (Ev.ite_pos (by omega) h)
 by_cases c1 : x.f0 = 1
 ·obtain ⟨t5,h5⟩ := G (setR ts (i : Int) x.f1 x.f4) ns (wrap64 (ts[i].f0 + 1)) (sl _ _)
  exact ⟨t5,cs,ns,0,pre (Ev.ite_pos c1 (w1 (by rw [h5];exact Ev.now _))),nc (by omega) (by omega) (by omega)⟩
 by_cases c2 : x.f0 = 2
 ·obtain ⟨t5,h5⟩ := G (setR ts (i : Int) x.f1 (wrap64 (rd ts[i].f1 x.f2 + rd ts[i].f1 x.f3))) ns (wrap64 (ts[i].f0 + 1)) (sl _ _)
  exact ⟨t5,cs,ns,0,pre (Ev.ite_neg c1 (Ev.ite_pos c2 (w2 (w3 (w1 (by rw [h5];exact Ev.now _)))))),nc (by omega) (by omega) (by omega)⟩
 by_cases c3 : x.f0 = 3
 ·obtain ⟨t5,h5⟩ := G (setR ts (i : Int) x.f1 (wrap64 (rd ts[i].f1 x.f2 - rd ts[i].f1 x.f3))) ns (wrap64 (ts[i].f0 + 1)) (sl _ _)
  exact ⟨t5,cs,ns,0,pre (Ev.ite_neg c1 (Ev.ite_neg c2 (Ev.ite_pos c3 (w2 (w3 (w1 (by rw [h5];exact Ev.now _))))))),nc (by omega) (by omega) (by omega)⟩
 by_cases c4 : x.f0 = 4
 ·obtain ⟨y,hy⟩ := bit_total (decide (rd ts[i].f1 x.f2 < rd ts[i].f1 x.f3))
  obtain ⟨t5,h5⟩ := G (setR ts (i : Int) x.f1 y) ns (wrap64 (ts[i].f0 + 1)) (sl _ _)
  exact ⟨t5,cs,ns,0,pre (Ev.ite_neg c1 (Ev.ite_neg c2 (Ev.ite_neg c3 (Ev.ite_pos c4 (w2 (w3 (w1 (by rw [hy,Option.bind_some,h5];exact Ev.now _)))))))),nc (by omega) (by omega) (by omega)⟩
 by_cases c10 : x.f0 = 10
 ·by_cases hl : (ns.length : Int) = 4000
  ·exact ⟨ts,cs,ns,3,pre (Ev.ite_neg c1 (Ev.ite_neg c2 (Ev.ite_neg c3 (Ev.ite_neg c4 (Ev.ite_pos c10 (Ev.ite_pos hl (Ev.now _))))))),by rw [if_pos ⟨c10,hl⟩]⟩
  ·obtain ⟨t5,h5⟩ := G ts (ns ++ [(⟨(i : Int),rd ts[i].f1 x.f2⟩ : S35)]) (wrap64 (ts[i].f0 + 1)) rfl
   exact ⟨t5,cs,_,0,pre (Ev.ite_neg c1 (Ev.ite_neg c2 (Ev.ite_neg c3 (Ev.ite_neg c4 (Ev.ite_pos c10 (Ev.ite_neg hl (w2 (Ev.ite_pos (by omega) (by rw [h5];exact Ev.now _))))))))),by rw [if_neg (fun h => hl h.2),if_neg (fun h => by have := h.1;omega)]⟩
 by_cases c11 : x.f0 = 11
 ·obtain ⟨t5,h5⟩ := G ts ns x.f4 rfl
  exact ⟨t5,cs,ns,0,pre (Ev.ite_neg c1 (Ev.ite_neg c2 (Ev.ite_neg c3 (Ev.ite_neg c4 (Ev.ite_neg c10 (Ev.ite_pos c11 (by rw [h5];exact Ev.now _))))))),nc (by omega) (by omega) (by omega)⟩
 by_cases c12 : x.f0 = 12
 ·by_cases hz : rd ts[i].f1 x.f2 = 0
  ·obtain ⟨t5,h5⟩ := G ts ns x.f4 rfl
   exact ⟨t5,cs,ns,0,pre (Ev.ite_neg c1 (Ev.ite_neg c2 (Ev.ite_neg c3 (Ev.ite_neg c4 (Ev.ite_neg c10 (Ev.ite_neg c11 (Ev.ite_pos c12 (w2 (Ev.ite_pos hz (by rw [h5];exact Ev.now _)))))))))),nc (by omega) (by omega) (by omega)⟩
  ·obtain ⟨t5,h5⟩ := G ts ns (wrap64 (ts[i].f0 + 1)) rfl
   exact ⟨t5,cs,ns,0,pre (Ev.ite_neg c1 (Ev.ite_neg c2 (Ev.ite_neg c3 (Ev.ite_neg c4 (Ev.ite_neg c10 (Ev.ite_neg c11 (Ev.ite_pos c12 (w2 (Ev.ite_neg hz (by rw [h5];exact Ev.now _)))))))))),nc (by omega) (by omega) (by omega)⟩
 by_cases c13 : x.f0 = 13
 ·exact ⟨setS ts (i : Int) 1,cs,ns,0,pre (Ev.ite_neg c1 (Ev.ite_neg c2 (Ev.ite_neg c3 (Ev.ite_neg c4 (Ev.ite_neg c10 (Ev.ite_neg c11 (Ev.ite_neg c12 (Ev.ite_pos c13 (Ev.now _))))))))),nc (by omega) (by omega) (by omega)⟩
 have hn4 : 0 ≤ x.f4 ∧ x.f4 < (cs.length : Int) := by omega
 obtain ⟨m,hm⟩ : ∃ m : Nat,x.f4 = (m : Int) := ⟨x.f4.toNat,by omega⟩
 have hmc : m < cs.length := by omega
 obtain ⟨t,c,how,he,hl,hw⟩ := chan_total ts cs i m x.f0 x.f1 x.f2 x.f3 hi hmc hr (hc _ (List.getElem_mem hmc)).1 (hc _ (List.getElem_mem hmc)).2 hr'.1 hr'.2 ha'.1 ha'.2 hb'.1 hb'.2 (by omega)
 have egd : cs.getD x.f4.toNat z94 = cs[m] := by rw [hm,Int.toNat_natCast,List.getD_eq_getElem?_getD,List.getElem?_eq_getElem hmc];rfl
 rw [egd]
 have ow : waitsAt x.f0 cs[m] = true → x.f0 = 5 ∨ x.f0 = 6 := fun h => by
  unfold waitsAt at h
  simp at h
  omega
 rw [← hm] at he
 by_cases d1 : how = 1
 ·exact ⟨t,c,ns,4,pre (Ev.ite_neg c1 (Ev.ite_neg c2 (Ev.ite_neg c3 (Ev.ite_neg c4 (Ev.ite_neg c10 (Ev.ite_neg c11 (Ev.ite_neg c12 (Ev.ite_neg c13 (Ev.bind he (Ev.ite_pos d1 (Ev.now _))))))))))),by rw [if_neg (fun h => c10 h.1),if_pos ⟨ow (hw.1 d1),hw.1 d1⟩]⟩
 have nw : (0 : Int) = (if x.f0 = 10 ∧ (ns.length : Int) = 4000 then 3 else if (x.f0 = 5 ∨ x.f0 = 6) ∧ waitsAt x.f0 cs[m] = true then 4 else 0) := by rw [if_neg (fun h => c10 h.1),if_neg (fun h => d1 (hw.2 h.2))]
 by_cases d2 : how = 2
 ·exact ⟨setS t (i : Int) 2,c,ns,0,pre (Ev.ite_neg c1 (Ev.ite_neg c2 (Ev.ite_neg c3 (Ev.ite_neg c4 (Ev.ite_neg c10 (Ev.ite_neg c11 (Ev.ite_neg c12 (Ev.ite_neg c13 (Ev.bind he (Ev.ite_neg d1 (Ev.ite_pos d2 (Ev.ite_pos (by rw [hl];omega) (Ev.now _))))))))))))),nw⟩
 ·obtain ⟨t5,h5⟩ := goes_total bs t c ns i (wrap64 (ts[i].f0 + 1)) (by omega) hb
  exact ⟨t5,c,ns,0,pre (Ev.ite_neg c1 (Ev.ite_neg c2 (Ev.ite_neg c3 (Ev.ite_neg c4 (Ev.ite_neg c10 (Ev.ite_neg c11 (Ev.ite_neg c12 (Ev.ite_neg c13 (Ev.bind he (Ev.ite_neg d1 (Ev.ite_neg d2 (by rw [h5];exact Ev.now _)))))))))))),nw⟩
theorem code_total (cap : List Int) (bs : List (List S192)) (ts : List S107) (cs : List S94) (ns : List S35) (i : Nat) (hi : i < ts.length) (ht : ts.length ≤ 1048576) (hb : i < bs.length) (h0 : 0 ≤ ts[i].f0) (h1 : ts[i].f0 < (bs[i].length : Int))
  (p : Int) (hx : insIn p (cs.length : Int) (rd_T192 bs[i] ts[i].f0) = true) : impl_sourceCode.f cap bs ts cs ns (i : Int) = some (codeAt bs ts cs ns i) := by
 have e1 : rd_T107 ts (i : Int) = ts[i] := thr_at hi
 have e2 : rd_L4 bs (i : Int) = bs[i] := bod_at hb
 have ec : codeAt bs ts cs ns i = (if ts[i].f2 = 0 then (if (rd_T192 bs[i] ts[i].f0).f0 = 10 ∧ (ns.length : Int) = 4000 then 3 else if ((rd_T192 bs[i] ts[i].f0).f0 = 5 ∨ (rd_T192 bs[i] ts[i].f0).f0 = 6) ∧ waitsAt (rd_T192 bs[i] ts[i].f0).f0 (cs.getD (rd_T192 bs[i] ts[i].f0).f4.toNat z94) = true then 4 else 0) else 3) := by
  unfold codeAt
  simp only [List.getD_eq_getElem?_getD,List.getElem?_eq_getElem hi,List.getElem?_eq_getElem hb,Option.getD_some,rd_T192]
 rw [ec]
 have hin : inn (i : Int) 0 (wrap64 ((ts.length : Int) - 1)) = true := by
  rw [wrap_in (by omega) (by omega)]
  unfold inn
  simp
  omega
 simp only [impl_sourceCode.f,impl_within_eq,Option.bind_some,hin,if_true,e1,e2]
 rw [if_pos (by omega),if_pos (by omega),if_pos (by omega),if_pos h0,if_pos h1]
 generalize hxx : rd_T192 bs[i] ts[i].f0 = x at hx ⊢
 unfold insIn insOk at hx
 obtain ⟨hr',ha',hb',hc',hop⟩ := of_decide_eq_true hx
 by_cases hs : ts[i].f2 = 0
 case neg => rw [if_neg hs,if_neg hs]
 rw [if_pos hs,if_pos hs]
 by_cases c10 : x.f0 = 10
 ·rw [if_pos c10]
  by_cases hl : (ns.length : Int) = 4000
  ·rw [if_pos hl,if_pos ⟨c10,hl⟩]
  ·rw [if_neg hl,if_neg (fun h => hl h.2),if_neg (fun h => by have := h.1;omega)]
 have e10 : ∀ q : Int,(if x.f0 = 10 ∧ (ns.length : Int) = 4000 then (3 : Int) else q) = q := fun q => if_neg (fun h => c10 h.1)
 rw [if_neg c10,e10]
 by_cases c5 : x.f0 = 5
 ·have hn4 : 0 ≤ x.f4 ∧ x.f4 < (cs.length : Int) := by omega
  have egd : rd_T94 cs x.f4 = cs.getD x.f4.toNat z94 := rfl
  rw [if_pos c5,if_pos hn4.1,if_pos hn4.2,egd]
  generalize cs.getD x.f4.toNat z94 = c
  unfold waitsAt
  rw [c5]
  cases c.f2 <;> by_cases hl : (c.f1.length : Int) = c.f0 <;> simp [hl]
 rw [if_neg c5]
 by_cases c6 : x.f0 = 6
 ·have hn4 : 0 ≤ x.f4 ∧ x.f4 < (cs.length : Int) := by omega
  have egd : rd_T94 cs x.f4 = cs.getD x.f4.toNat z94 := rfl
  rw [if_pos c6,if_pos hn4.1,if_pos hn4.2,egd]
  generalize cs.getD x.f4.toNat z94 = c
  unfold waitsAt
  rw [c6]
  cases c.f2 <;> by_cases hl : c.f1 = [] <;> simp [hl]
 have e56 : ∀ q : Prop,∀ _ : Decidable q,(if (x.f0 = 5 ∨ x.f0 = 6) ∧ q then (4 : Int) else 0) = 0 := fun q _ => if_neg (fun h => h.1.elim c5 c6)
 rw [if_neg c6,e56]
theorem right_at {cap : List Int} {bs : List (List S192)} {ts : List S107} {chs : List S94} {nts : List S35} (h : sourceOk cap bs ts chs nts = true) (i : Nat) (hi : i < ts.length) :
  ∃ hb : i < bs.length,ts[i].f1.length = 4 ∧ 0 ≤ ts[i].f0 ∧ ts[i].f0 < (bs[i].length : Int) ∧ insIn (bs[i].length : Int) (chs.length : Int) (rd_T192 bs[i] ts[i].f0) = true := by
 unfold sourceOk at h
 simp only [Bool.and_eq_true,decide_eq_true_eq] at h
 obtain ⟨hp,he,hf,_,ht,_⟩ := h
 have hb : i < bs.length := by omega
 unfold progOk at hp
 simp only [Bool.and_eq_true,decide_eq_true_eq,List.all_eq_true] at hp
 have hbody := hp.2.1 bs[i] (List.getElem_mem hb)
 unfold bodyOk at hbody
 simp only [Bool.and_eq_true,List.all_eq_true] at hbody
 have hth := List.all_eq_true.1 ht i (List.mem_range.2 hi)
 unfold thrIn inn at hth
 simp only [Bool.and_eq_true,decide_eq_true_eq,List.getD_eq_getElem?_getD,List.getElem?_eq_getElem hi,List.getElem?_eq_getElem hb,Option.getD_some] at hth
 obtain ⟨a,b,c⟩ := hth
 have h0 : 0 ≤ ts[i].f0 := by omega
 have h1 : ts[i].f0 < (bs[i].length : Int) := by omega
 refine ⟨hb,by omega,h0,h1,?_⟩
 have hlt : ts[i].f0.toNat < bs[i].length := by omega
 have e : rd_T192 bs[i] ts[i].f0 = bs[i][ts[i].f0.toNat] := by simp [rd_T192,List.getD_eq_getElem?_getD,List.getElem?_eq_getElem hlt]
 rw [e,hf]
 exact hbody.1 _ (List.getElem_mem hlt)
theorem sstep_total (cap : List Int) (bs : List (List S192)) (ts : List S107) (chs : List S94) (nts : List S35) (hcs : cap.length ≤ 1048576) (hbl : bs.length ≤ 1048576) (hb : ∀ b ∈ bs,b.length ≤ 1048576) (ht : ts.length ≤ 1048576) (hc : chs.length ≤ 1048576) (hn : nts.length ≤ 1048576) (ht1 : ∀ t ∈ ts,t.f1.length ≤ 1048576) (hc1 : ∀ c ∈ chs,c.f1.length ≤ 1048576)
  (hok : sourceOk cap bs ts chs nts = true) (i : Nat) (hi : i < ts.length) : ∃ z,Ev (fun k => spec_SourceStep.f k cap bs ts chs nts (i : Int)) z ∧ z.2.2.2 = codeAt bs ts chs nts i := by
 obtain ⟨hbi,hr,h0,h1,hx⟩ := right_at hok i hi
 have hch : ∀ c ∈ chs,chanOk c.f0 c.f1 = true := by
  have h := hok
  unfold sourceOk at h
  simp only [Bool.and_eq_true] at h
  intro c hcm
  obtain ⟨j,hj,e⟩ := List.mem_iff_getElem.1 hcm
  have h2 := List.all_eq_true.1 h.2.2.2.2.2.1 j (List.mem_range.2 hj)
  unfold chIn at h2
  simp only [Bool.and_eq_true,List.getD_eq_getElem?_getD,List.getElem?_eq_getElem hj,Option.getD_some] at h2
  rw [← e]
  exact h2.1
 have e1 : rd_T107 ts (i : Int) = ts[i] := thr_at hi
 have hin : inn (i : Int) 0 (wrap64 ((ts.length : Int) - 1)) = true := by
  rw [wrap_in (by omega) (by omega)]
  unfold inn
  simp
  omega
 have hcp := spec_l4Copy_ev ts chs nts ht hc hn ht1 hc1
 have hS := spec_SourceOk_ev cap bs ts chs nts hcs hbl hb ht hc hn
 rw [hok] at hS
 by_cases hs : ts[i].f2 = 0
 ·obtain ⟨t,c,n,z,he,hz⟩ := step_total bs ts chs nts i hi hbi hr h0 h1 hs hn _ hx (fun c hcm => ⟨hch c hcm,hc1 c hcm⟩)
  by_cases hz0 : z = 0
  ·refine ⟨(t,c,n,0),?_,by rw [← hz,hz0]⟩
   simp only [spec_SourceStep.f,spec_l1In_eq,Option.bind_some,hin,if_true,e1]
   exact Ev.bind hS (Ev.ite_pos rfl (Ev.ite_pos (by omega) (Ev.ite_pos (by omega) (Ev.ite_pos hs (Ev.bind hcp (Ev.bind he (Ev.ite_pos hz0 (Ev.now _))))))))
  ·refine ⟨(ts,chs,nts,z),?_,hz⟩
   simp only [spec_SourceStep.f,spec_l1In_eq,Option.bind_some,hin,if_true,e1]
   exact Ev.bind hS (Ev.ite_pos rfl (Ev.ite_pos (by omega) (Ev.ite_pos (by omega) (Ev.ite_pos hs (Ev.bind hcp (Ev.bind he (Ev.ite_neg hz0 (Ev.bind hcp (Ev.now _)))))))))
 ·refine ⟨(ts,chs,nts,3),?_,?_⟩
  ·simp only [spec_SourceStep.f,spec_l1In_eq,Option.bind_some,hin,if_true,e1]
   exact Ev.bind hS (Ev.ite_pos rfl (Ev.ite_pos (by omega) (Ev.ite_pos (by omega) (Ev.ite_neg hs (Ev.bind hcp (Ev.now _))))))
  ·unfold codeAt
   simp [List.getD_eq_getElem?_getD,hi,hs]
def ableFrom (bs : List (List S192)) (ts : List S107) (chs : List S94) (nts : List S35) (j : Nat) : List Int := ((List.range j).filter (fun i => decide (codeAt bs ts chs nts i = 0))).map (fun i : Nat => (i : Int))
theorem ableFrom_len (bs : List (List S192)) (ts : List S107) (chs : List S94) (nts : List S35) (j : Nat) : (ableFrom bs ts chs nts j).length ≤ j := by
 unfold ableFrom
 rw [List.length_map]
 exact Nat.le_trans (List.length_filter_le _ _) (by simp)
theorem ableFrom_yes {bs : List (List S192)} {ts : List S107} {chs : List S94} {nts : List S35} {j : Nat} (h : codeAt bs ts chs nts j = 0) : ableFrom bs ts chs nts (j + 1) = ableFrom bs ts chs nts j ++ [(j : Int)] := by
 unfold ableFrom
 rw [List.range_succ,List.filter_append,List.map_append]
 simp [h]
theorem ableFrom_no {bs : List (List S192)} {ts : List S107} {chs : List S94} {nts : List S35} {j : Nat} (h : ¬ codeAt bs ts chs nts j = 0) : ableFrom bs ts chs nts (j + 1) = ableFrom bs ts chs nts j := by
 unfold ableFrom
 rw [List.range_succ,List.filter_append,List.map_append]
 simp [h]
section
variable (cap : List Int) (bs : List (List S192)) (ts : List S107) (chs : List S94) (nts : List S35) (hcs : cap.length ≤ 1048576) (hbl : bs.length ≤ 1048576) (hb : ∀ b ∈ bs,b.length ≤ 1048576) (ht : ts.length ≤ 1048576) (hc : chs.length ≤ 1048576) (hn : nts.length ≤ 1048576) (ht1 : ∀ t ∈ ts,t.f1.length ≤ 1048576) (hc1 : ∀ c ∈ chs,c.f1.length ≤ 1048576) (hok : sourceOk cap bs ts chs nts = true)
include hcs hbl hb ht hc hn ht1 hc1 hok
theorem spec_Able_ev : Ev (fun k => spec_Able.f k cap bs ts chs nts) (ableFrom bs ts chs nts ts.length) := by
 have hS := spec_SourceOk_ev cap bs ts chs nts hcs hbl hb ht hc hn
 rw [hok] at hS
 have key := count_up (L := fun j k => spec_Able.l0 k (ableFrom bs ts chs nts j) (j : Int) cap bs ts chs nts) (R := fun _ => ableFrom bs ts chs nts ts.length) (n := ts.length)
  (Ev.step (fun k => by simp only [spec_Able.l0];rw [if_neg (by omega)]) (Ev.one fun k => by simp only [spec_Able.j1];rw [if_neg (by decide)]))
  (fun i hi ih => by
   obtain ⟨z,he,hz⟩ := sstep_total cap bs ts chs nts hcs hbl hb ht hc hn ht1 hc1 hok i hi
   have hl := ableFrom_len bs ts chs nts i
   refine Ev.step (fun k => by simp only [spec_Able.l0];rw [if_pos (by omega)]) (Ev.bind hS ?_)
   refine Ev.step (fun k => by simp only [spec_Able.j1];rw [if_pos (by decide)]) (Ev.bind he ?_)
   rw [wrapS hi (by omega)]
   by_cases h : codeAt bs ts chs nts i = 0
   ·rw [ableFrom_yes h] at ih
    exact Ev.ite_pos (by rw [hz];exact h) (Ev.ite_pos (by omega) ih)
   ·rw [ableFrom_no h] at ih
    exact Ev.ite_neg (by rw [hz];exact h) ih)
 exact key 0 (Nat.zero_le _)
theorem impl_Able_ev : Ev (fun k => impl_Able.f k cap bs ts chs nts) (ableFrom bs ts chs nts ts.length) := by
 have hS := impl_SourceOk_ev cap bs ts chs nts hcs hbl hb ht hc hn
 have _h1 := ht1
 have _h2 := hc1
 rw [hok] at hS
 have key := count_up (L := fun j k => impl_Able.l0 k (ableFrom bs ts chs nts j) (ts.length : Int) (j : Int) cap bs ts chs nts) (R := fun _ => ableFrom bs ts chs nts ts.length) (n := ts.length)
  (Ev.one fun k => by simp only [impl_Able.l0];rw [if_neg (by omega)])
  (fun i hi ih => by
   obtain ⟨hbi,hr,h0,h1,hx⟩ := right_at hok i hi
   have hl := ableFrom_len bs ts chs nts i
   have hcd := code_total cap bs ts chs nts i hi ht hbi h0 h1 _ hx
   refine Ev.step (fun k => by simp only [impl_Able.l0];rw [if_pos (by omega),hcd,Option.bind_some]) ?_
   rw [wrapS hi (by omega)]
   by_cases h : codeAt bs ts chs nts i = 0
   ·rw [ableFrom_yes h] at ih
    exact Ev.ite_pos h (Ev.ite_pos (by omega) ih)
   ·rw [ableFrom_no h] at ih
    exact Ev.ite_neg h ih)
 simp only [impl_Able.f,Option.bind_some]
 exact Ev.bind hS (Ev.ite_pos rfl (key 0 (Nat.zero_le _)))
end
theorem wsum_le {α : Type} (wt w' : α → Nat) (m : Nat) : ∀ xs : List α,(∀ x ∈ xs,wt x ≤ m + w' x) → Marks.wsum wt xs ≤ m * xs.length + total w' xs
 | [],_ => by simp [Marks.wsum]
 | x :: xs,h => by
  have h1 := h x List.mem_cons_self
  have h2 := wsum_le wt w' m xs (fun y hy => h y (List.mem_cons_of_mem _ hy))
  rw [Marks.wsum,total,List.length_cons,Nat.mul_add]
  omega
theorem wsum_one {α : Type} : ∀ xs : List α,Marks.wsum (fun _ => 1) xs = xs.length
 | [] => rfl
 | x :: xs => by rw [Marks.wsum,wsum_one xs,List.length_cons];omega
theorem Ev.if_le {α : Type} {c : Prop} [Decidable c] {g : Nat → Option α} {r : α} (h : c) (k : Ev g r) : Ev (fun n => if c then g n else none) r := by simp only [if_pos h];exact k
theorem wsum_threads (xs : List S107) : Marks.wsum wt107 xs ≤ 2 * xs.length + total wiThread xs := wsum_le _ _ 2 xs (fun x _ => by simp only [wt107,wsum_one,wiThread];omega)
theorem wsum_chans (xs : List S94) : Marks.wsum wt94 xs ≤ 2 * xs.length + total wiChan xs := wsum_le _ _ 2 xs (fun x _ => by simp only [wt94,wsum_one,wiChan];omega)
theorem wsum_notes : ∀ xs : List S35,Marks.wsum wt35 xs ≤ 2 * xs.length
 | [] => by simp [Marks.wsum]
 | x :: xs => by
  have h2 := wsum_notes xs
  rw [Marks.wsum,List.length_cons,show wt35 x = 2 from rfl]
  omega
theorem wsum_bodies : ∀ bs : List (List S192),Marks.wsum (Marks.wsum wt192) bs ≤ 5 * total (fun b => b.length) bs
 | [] => by simp [Marks.wsum,total]
 | b :: bs => by
  have h1 : Marks.wsum wt192 b = 5 * b.length := by
   have key : ∀ l : List S192,Marks.wsum wt192 l = 5 * l.length := by
    intro l
    induction l with
    | nil => simp [Marks.wsum]
    | cons x l ih => rw [Marks.wsum,ih,List.length_cons,show wt192 x = 5 from rfl];omega
   exact key b
  have h2 := wsum_bodies bs
  rw [Marks.wsum,total,h1]
  omega
def ableOf (cap : List Int) (bs : List (List S192)) (ts : List S107) (chs : List S94) (nts : List S35) : List Int := if sourceOk cap bs ts chs nts = true then ableFrom bs ts chs nts ts.length else []
theorem ableOf_len (cap : List Int) (bs : List (List S192)) (ts : List S107) (chs : List S94) (nts : List S35) : (ableOf cap bs ts chs nts).length ≤ ts.length := by
 unfold ableOf
 split
 ·exact ableFrom_len bs ts chs nts ts.length
 ·simp
section
variable (cap : List Int) (bs : List (List S192)) (ts : List S107) (chs : List S94) (nts : List S35) (hcs : cap.length ≤ 1048576) (hbl : bs.length ≤ 1048576) (hb : ∀ b ∈ bs,b.length ≤ 1048576) (ht : ts.length ≤ 1048576) (hc : chs.length ≤ 1048576) (hn : nts.length ≤ 1048576) (ht1 : ∀ t ∈ ts,t.f1.length ≤ 1048576) (hc1 : ∀ c ∈ chs,c.f1.length ≤ 1048576)
include hcs hbl hb ht hc hn ht1 hc1
theorem spec_AbleOf_ev : Ev (fun k => spec_Able.f k cap bs ts chs nts) (ableOf cap bs ts chs nts) := by
 by_cases hok : sourceOk cap bs ts chs nts = true
 ·rw [ableOf,if_pos hok]
  exact spec_Able_ev cap bs ts chs nts hcs hbl hb ht hc hn ht1 hc1 hok
 ·rw [ableOf,if_neg hok]
  have hS := spec_SourceOk_ev cap bs ts chs nts hcs hbl hb ht hc hn
  rw [Bool.eq_false_iff.mpr hok] at hS
  have no : Ev (fun k => spec_Able.j1 k [] 0 false cap bs ts chs nts) [] := Ev.one fun k => by simp only [spec_Able.j1];rw [if_neg (by decide)]
  simp only [spec_Able.f]
  by_cases h0 : (0 : Int) < (ts.length : Int)
  ·exact Ev.step (fun k => by simp only [spec_Able.l0];rw [if_pos h0]) (Ev.bind hS no)
  ·exact Ev.step (fun k => by simp only [spec_Able.l0];rw [if_neg h0]) no
theorem impl_AbleOf_ev : Ev (fun k => impl_Able.f k cap bs ts chs nts) (ableOf cap bs ts chs nts) := by
 by_cases hok : sourceOk cap bs ts chs nts = true
 ·rw [ableOf,if_pos hok]
  exact impl_Able_ev cap bs ts chs nts hcs hbl hb ht hc hn ht1 hc1 hok
 ·rw [ableOf,if_neg hok]
  have hS := impl_SourceOk_ev cap bs ts chs nts hcs hbl hb ht hc hn
  rw [Bool.eq_false_iff.mpr hok] at hS
  simp only [impl_Able.f,Option.bind_some]
  exact Ev.bind hS (Ev.ite_neg (by decide) (Ev.now _))
end
theorem FnExactAble (x0_0 : (List Int)) (x0_1 : (List (List S208))) (x1_0 : (List S184)) (x1_1 : (List S186)) (x1_2 : (List S190)) (ok0 : ((x0_0.length ≤ maxLen ∧ ∀ z ∈ x0_0,((Lit.int .i64 z).wf = true)) ∧ (x0_1.length ≤ maxLen ∧ ∀ z ∈ x0_1,(z.length ≤ maxLen ∧ ∀ z' ∈ z,(((Lit.int .i64 z'.f0).wf = true) ∧ (((Lit.int .i64 z'.f1).wf = true) ∧ (((Lit.int .i64 z'.f2).wf = true) ∧ (((Lit.int .i64 z'.f3).wf = true) ∧ ((Lit.int .i64 z'.f4).wf = true))))))))) (ok1 : ((x1_0.length ≤ maxLen ∧ ∀ z ∈ x1_0,(((Lit.int .i64 z.f0).wf = true) ∧ ((z.f1.length ≤ maxLen ∧ ∀ z' ∈ z.f1,((Lit.int .i64 z').wf = true)) ∧ ((Lit.int .i64 z.f2).wf = true)))) ∧ ((x1_1.length ≤ maxLen ∧ ∀ z ∈ x1_1,(((Lit.int .i64 z.f0).wf = true) ∧ ((z.f1.length ≤ maxLen ∧ ∀ z' ∈ z.f1,((Lit.int .i64 z').wf = true)) ∧ True))) ∧ (x1_2.length ≤ maxLen ∧ ∀ z ∈ x1_2,(((Lit.int .i64 z.f0).wf = true) ∧ ((Lit.int .i64 z.f1).wf = true)))))) : ∃ k,laws_FnExactAble.f k x0_0 x0_1 x1_0 x1_1 x1_2 = some true := by
 refine Ev.rounds (g := fun k => laws_FnExactAble.f k x0_0 x0_1 x1_0 x1_1 x1_2) ?_
 simp only [laws_FnExactAble.f]
 refine Ev.bind (szProg_ev x0_0 x0_1 1048576 (by omega) (by omega) ⟨(by have := ((ok0).1).1;unfold maxLen at this;omega),⟨(by have := ((ok0).2).1;unfold maxLen at this;omega),fun x0_ h0_ => (by have := (((ok0).2).2 x0_ h0_).1;unfold maxLen at this;omega)⟩⟩) ?_
 by_cases h : ((x0_0.length + (x0_1.length + total wlInsS x0_1) : Nat) : Int) ≤ 1048576
 case neg => rw [left?_no h];exact Ev.ite_pos (by omega) (Ev.now _)
 rw [left?_yes h]
 refine Ev.ite_neg (by omega) ?_
 obtain ⟨hb,hbs⟩ := bodies_small x0_1 (by omega)
 refine Ev.bind (szSource_ev x1_0 x1_1 x1_2 _ (by omega) (by omega) ⟨⟨(by have := ((ok1).1).1;unfold maxLen at this;omega),fun x0_ h0_ => (by have := ((((ok1).1).2 x0_ h0_).2.1).1;unfold maxLen at this;omega)⟩,⟨(by have := ((ok1).2.1).1;unfold maxLen at this;omega),fun x0_ h0_ => (by have := ((((ok1).2.1).2 x0_ h0_).2.1).1;unfold maxLen at this;omega)⟩,(by have := ((ok1).2.2).1;unfold maxLen at this;omega)⟩) ?_
 by_cases h2 : (((x1_0.length + total wlThread x1_0) + ((x1_1.length + total wlChan x1_1) + x1_2.length) : Nat) : Int) ≤ 1048576 - ((x0_0.length + (x0_1.length + total wlInsS x0_1) : Nat) : Int)
 case neg => rw [left?_no (by omega)];exact Ev.ite_pos (by omega) (Ev.now _)
 rw [left?_yes (by omega)]
 refine Ev.ite_neg (by omega) ?_
 have p1 := toProg_ev x0_0 x0_1 (by omega) (by omega)
 have p2 := toSource_ev x1_0 x1_1 x1_2 (by omega) (by omega) (by omega)
 have ht1 : ∀ t ∈ x1_0.map cvThread,t.f1.length ≤ 1048576 := fun t h_ => by obtain ⟨y,hy,rfl⟩ := List.mem_map.1 h_;have h1 := total_mem wlThread hy;have h2 : wlThread y = y.f1.length := rfl;simp [cvThread];omega
 have hc1 : ∀ c ∈ x1_1.map cvChan,c.f1.length ≤ 1048576 := fun t h_ => by obtain ⟨y,hy,rfl⟩ := List.mem_map.1 h_;have h1 := total_mem wlChan hy;have h2 : wlChan y = y.f1.length := rfl;simp [cvChan];omega
 have e1 := spec_AbleOf_ev x0_0 (x0_1.map cvInsS) (x1_0.map cvThread) (x1_1.map cvChan) (x1_2.map cvNote) (by omega) hb hbs (by simp;omega) (by simp;omega) (by simp;omega) ht1 hc1
 have e2 := impl_AbleOf_ev x0_0 (x0_1.map cvInsS) (x1_0.map cvThread) (x1_1.map cvChan) (x1_2.map cvNote) (by omega) hb hbs (by simp;omega) (by simp;omega) (by simp;omega) ht1 hc1
 have hl := ableOf_len x0_0 (x0_1.map cvInsS) (x1_0.map cvThread) (x1_1.map cvChan) (x1_2.map cvNote)
 have hl2 : (ableOf x0_0 (x0_1.map cvInsS) (x1_0.map cvThread) (x1_1.map cvChan) (x1_2.map cvNote)).length ≤ 1048576 := Nat.le_trans hl (by simp;omega)
 generalize ableOf x0_0 (x0_1.map cvInsS) (x1_0.map cvThread) (x1_1.map cvChan) (x1_2.map cvNote) = z at e1 e2 hl2
 have hbe := bodies_eq x0_1 (by omega)
 have hte := threads_eq x1_0 (by omega)
 have hce := chans_eq x1_1 (by omega)
 have w1 := wsum_bodies (x0_1.map cvInsS)
 have w2 := wsum_threads (x1_0.map cvThread)
 have w3 := wsum_chans (x1_1.map cvChan)
 have w5 := wsum_notes (x1_2.map cvNote)
 have w4 : total (fun b => b.length) (x0_1.map cvInsS) = total wiInsS (x0_1.map cvInsS) := rfl
 have w6 : (x1_2.map cvNote).length ≤ 1048576 := by simp;omega
 have q := eqIntS_self z (by omega)
 refine Ev.bind p1 (Ev.bind p2 ?_)
 refine Ev.bind e1 ?_
 refine Ev.bind p1 (Ev.bind p2 ?_)
 refine Ev.bind e2 ?_
 refine Ev.bind q (Ev.ite_pos rfl ?_)
 refine Ev.bind p1 ?_
 refine Ev.bind (eqProg_self x0_0 (x0_1.map cvInsS) (by omega) hbe) (Ev.ite_pos rfl ?_)
 refine Ev.bind p2 ?_
 refine Ev.bind (eqSource_self (x1_0.map cvThread) (x1_1.map cvChan) (x1_2.map cvNote) hte hce w6) (Ev.ite_pos rfl ?_)
 refine Ev.if_le (by rw [wsum_one];dsimp only;omega) ?_
 refine Ev.if_le (by dsimp only;omega) ?_
 refine Ev.bind q (Ev.ite_pos rfl ?_)
 refine Ev.if_le (by rw [wsum_one];omega) ?_
 refine Ev.bind p1 (Ev.bind p2 ?_)
 refine Ev.bind e2 ?_
 refine Ev.bind q (Ev.ite_pos rfl ?_)
 exact Ev.now _
end Go.Proofs.Ytobachfngmpeiaa.Pure
namespace Go.Proofs.Ytobachfngmpeiaa.Rd
open Go.RowKit Go.Proofs.YtobachfngmpeiaaW.PrintWords Go.ChangeShapes Go.WideShapes
set_option linter.unusedVariables false
def Opens {α : Type} (P : Program) (t : TypeId) (d : Kd α) (ok : α → Prop) : Prop :=
  ∀ (H : Type) (enc : TypeId × Value → H) (w : World) (base : Nat) (spare : Nat → Bool) (held : Bool) (fuel : Nat) (cs : List Value) (x : DataW H × List MemPlace),
    DataW.trod enc P w base spare held fuel t cs = some x → ∃ y,d.K w y cs ∧ ok y
theorem Opens.int {P : Program} {t : TypeId} {k : IntKind} (ht : P.underlying t = some (.int k)) : Opens P t (Kd.int k) (fun n => (Lit.int k n).wf = true) := by
 intro H enc w base spare held fuel cs x h
 obtain ⟨n,rfl,_,hw⟩ := DataW.trod_int ht h
 exact ⟨n,rfl,hw⟩
theorem Opens.bool {P : Program} {t : TypeId} (ht : P.underlying t = some .bool) : Opens P t Kd.bool (fun _ => True) := by
 intro H enc w base spare held fuel cs x h
 obtain ⟨n,rfl,_⟩ := DataW.trod_bool ht h
 exact ⟨n,rfl,trivial⟩
theorem Opens.weaken {α : Type} {P : Program} {t : TypeId} {d : Kd α} {ok ok' : α → Prop} (h : Opens P t d ok) (hk : ∀ x,ok x → ok' x) : Opens P t d ok' := by
 intro H enc w base spare held fuel cs x hx
 obtain ⟨y,hy,o⟩ := h H enc w base spare held fuel cs x hx
 exact ⟨y,hy,hk y o⟩
theorem list_of {α : Type} {Q : Nat → α → Prop} : ∀ n : Nat,(∀ i,i < n → ∃ y,Q i y) → ∃ ys : List α,ys.length = n ∧ ∀ i y,ys[i]? = some y → Q i y := by
 intro n
 induction n with
 | zero => exact fun _ => ⟨[],rfl,fun i y h => by simp at h⟩
 | succ n ih =>
  intro h
  obtain ⟨ys,hl,hq⟩ := ih (fun i hi => h i (by omega))
  obtain ⟨y,hy⟩ := h n (by omega)
  refine ⟨ys ++ [y],by simp [hl],fun i z hz => ?_⟩
  rcases Nat.lt_or_ge i ys.length with hi | hi
  ·rw [List.getElem?_append_left hi] at hz
   exact hq i z hz
  ·rw [List.getElem?_append_right hi] at hz
   have h0 : i - ys.length = 0 := by
    have := (List.getElem?_eq_some_iff.1 hz).1
    simp at this
    omega
   rw [h0] at hz
   simp at hz
   subst hz
   have : i = n := by omega
   rw [this]
   exact hy
theorem Opens.slice {α : Type} {P : Program} {t e : TypeId} (q : Nat) {d : Kd α} {ok : α → Prop} (ht : P.underlying t = some (.slice e)) (hs : P.cellsOf e = d.sz) (he : Opens P e d ok) :
    Opens P t (Kd.slice q d) (fun xs => xs.length ≤ maxLen ∧ ∀ x ∈ xs,ok x) := by
  intro H enc w base spare held fuel cs x h
  rcases DataW.trod_slice ht h with ⟨rfl,_⟩ | ⟨a,len,cap,elems,rest,n,_,rfl,_,_,hl,hm,hlen,hel,_,_⟩
  · exact ⟨[],⟨none,0,rfl,Nat.le_refl _,rfl,by simp,fun hp => absurd hp (by simp)⟩,by simp,by simp⟩
  · have each : ∀ i,i < len → ∃ y,∃ c,w.cells? base (a.add (i * d.sz)) d.sz = some c ∧ d.K w y c ∧ ok y := by
      intro i hi
      have h1 := hel i hi
      rw [List.getElem?_eq_getElem (by omega),Option.bind_eq_some_iff,hs] at h1
      obtain ⟨c,hc,hx⟩ := h1
      obtain ⟨y,hy,ho⟩ := he H enc w base spare held n c _ hx
      exact ⟨y,c,hc,hy,ho⟩
    obtain ⟨ys,hyl,hq⟩ := list_of len each
    have hm' : len ≤ 9223372036854775807 := by unfold maxLen at hm;omega
    refine ⟨ys,⟨some a,cap,by rw [hyl],by omega,rfl,by omega,fun _ => ⟨a,rfl,fun j p hj => ?_⟩⟩,by omega,fun y hy => ?_⟩
    · obtain ⟨c,hc,hk,_⟩ := hq j p hj
      obtain ⟨_,hcl,hcell⟩ := World.cells?_some hc
      refine ⟨c,hcl,hk,fun i u hu => ?_⟩
      have hi : i < d.sz := by
        have := (List.getElem?_eq_some_iff.1 hu).1
        omega
      rw [← Addr.add_add,hcell i hi,hu]
    · obtain ⟨i,hi⟩ := List.getElem?_of_mem hy
      obtain ⟨c,_,_,ho⟩ := hq i y hi
      exact ho
def OpensAt {α : Type} (P : Program) (fs : List Field) (off : Nat) (d : Kd α) (ok : α → Prop) : Prop :=
  ∀ (H : Type) (enc : TypeId × Value → H) (w : World) (base : Nat) (spare : Nat → Bool) (held : Bool) (n : Nat) (cs : List Value),cs.length = off + d.sz →
    (∀ f ∈ fs,∃ y,DataW.trod enc P w base spare held n f.type ((cs.drop f.offset).take (P.cellsOf f.type)) = some y) → ∃ y,d.K w y (cs.drop off) ∧ ok y
theorem OpensAt.one {α : Type} {P : Program} {f : Field} {off : Nat} {d : Kd α} {ok : α → Prop} (ho : f.offset = off) (hs : P.cellsOf f.type = d.sz) (h : Opens P f.type d ok) : OpensAt P [f] off d ok := by
 intro H enc w base spare held n cs hl hf
 obtain ⟨x,hx⟩ := hf f (by simp)
 rw [ho,hs,List.take_of_length_le (by simp;omega)] at hx
 exact h _ _ _ _ _ _ _ _ _ hx
theorem OpensAt.cons {α β : Type} {P : Program} {f : Field} {fs : List Field} {off : Nat} {a : Kd α} {b : Kd β} {oka : α → Prop} {okb : β → Prop} (ho : f.offset = off) (hs : P.cellsOf f.type = a.sz) (h : Opens P f.type a oka)
  (hr : OpensAt P fs (off + a.sz) b okb) : OpensAt P (f :: fs) off (Kd.pair a b) (fun x => oka x.1 ∧ okb x.2) := by
 intro H enc w base spare held n cs hl hf
 obtain ⟨x,hx⟩ := hf f (by simp)
 rw [ho,hs] at hx
 obtain ⟨y,hy,oy⟩ := h _ _ _ _ _ _ _ _ _ hx
 have hl' : cs.length = (off + a.sz) + b.sz := by rw [hl];show off + (a.sz + b.sz) = _;omega
 obtain ⟨z,hz,oz⟩ := hr H enc w base spare held n cs hl' (fun g hg => hf g (by simp [hg]))
 refine ⟨(y,z),⟨_,_,?_,hy,hz⟩,oy,oz⟩
 rw [← List.drop_drop]
 exact (List.take_append_drop _ _).symm
theorem Opens.struct {α : Type} {P : Program} {t : TypeId} {fs : List Field} {d : Kd α} {ok : α → Prop} (ht : P.underlying t = some (.struct (List.toArray fs))) (hs : P.cellsOf t = d.sz) (h : OpensAt P fs 0 d ok) : Opens P t d ok := by
 intro H enc w base spare held fuel cs x hx
 obtain ⟨xs,n,_,_,hl,hlen,hf⟩ := DataW.trod_struct ht hx
 obtain ⟨y,hy,oy⟩ := h H enc w base spare held n cs (by omega) (fun f hm => by
  obtain ⟨i,hi⟩ := List.getElem?_of_mem hm
  have hi' : (List.toArray fs)[i]? = some f := by simpa using hi
  have h1 := hf i f hi'
  have hlt : i < xs.length := by
   have := (Array.getElem?_eq_some_iff.1 hi').1
   omega
  rw [List.getElem?_eq_getElem hlt] at h1
  exact ⟨_,h1⟩)
 exact ⟨y,by simpa using hy,oy⟩
theorem Opens.iso {α β : Type} {P : Program} {t : TypeId} {d : Kd α} {ok : α → Prop} (f : β → α) (g : α → β) (hg : ∀ x,f (g x) = x) (h : Opens P t d ok) : Opens P t (Kd.iso d f) (fun y => ok (f y)) := by
 intro H enc w base spare held fuel cs x hx
 obtain ⟨y,hy,o⟩ := h H enc w base spare held fuel cs x hx
 refine ⟨g y,?_,?_⟩
 ·show d.K w (f (g y)) cs
  rw [hg]
  exact hy
 ·show ok (f (g y))
  rw [hg]
  exact o
theorem Opens.at_struct {α : Type} {P : Program} {t : TypeId} {d : Kd α} {ok : α → Prop} (h : Opens P t d ok) {H : Type} {enc : TypeId × Value → H} {w : World} {base : Nat} {spare : Nat → Bool} {held : Bool} {v : Value} {x : DataW H} {ps : List MemPlace}
  {fs : Array Field} {r : Reach} {b0 : Nat} (hu : P.underlying t = some (.struct fs)) (hv : Value.okWide P w r b0 t v) (hx : DataW.Trod enc P w base spare held t v x ps) : ∃ y cs,v = .agg (List.toArray cs) ∧ d.K w y cs ∧ ok y := by
 obtain ⟨cs,rfl,_⟩ := okWide_struct hu hv
 obtain ⟨fuel,hf⟩ := hx
 obtain ⟨y,hK,o⟩ := h _ _ _ _ _ _ _ _ _ hf
 exact ⟨y,cs.toList,by simp,by simpa [Value.cells] using hK,o⟩
end Go.Proofs.Ytobachfngmpeiaa.Rd
