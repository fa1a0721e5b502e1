/- A part of the proof that the law FnLoad holds for every input: the words, functions and walks that its row needs, without a condition of their own. -/
import Derived.ProofKit
import Derived.DataElems
import Derived.ChangeArms
import Derived.SizedLaws
import Derived.Test.YthbcnakmnbilhaaZFnLoada0
import Derived.Test.YthbcnakmnbilhaaZFnLoada14
namespace Go.Proofs.Ythbcnakmnbilhaa.Lp
open Go.RowKit Go.Proofs.YthbcnakmnbilhaaW.PrintWords
set_option linter.unusedVariables false
set_option linter.unusedSimpArgs false
theorem wrapS {j n : Nat} (h : j < n) (hn : n ≤ 9223372036854775807) : wrap64 ((j : Int) + 1) = ((j + 1 : Nat) : Int) := by
  unfold wrap64;omega
theorem wrap_in {n : Int} (h0 : -9223372036854775808 ≤ n) (h1 : n ≤ 9223372036854775807) : wrap64 n = n := by
  unfold wrap64;omega
theorem rd_get {xs : List Int} {j : Nat} (h : j < xs.length) : rd xs (j : Int) = xs[j] := by simp [rd,List.getD_eq_getElem?_getD,h]
theorem count_up {ρ : Type} {L : Nat → Nat → Option ρ} {R : Nat → ρ} {n : Nat} (hend : Ev (L n) (R n)) (hstep : ∀ j,j < n → Ev (L (j + 1)) (R (j + 1)) → Ev (L j) (R j)) : ∀ j,j ≤ n → Ev (L j) (R j) := by
  have key : ∀ d j,j + d = n → Ev (L j) (R j) := by
    intro d
    induction d with
    | zero => intro j hj;obtain rfl : j = n := by omega
              exact hend
    | succ d ih => intro j hj;exact hstep j (by omega) (ih (j + 1) (by omega))
  exact fun j hj => key (n - j) j (by omega)
theorem Ev.one {α : Type} {g : Nat → Option α} {r : α} (h : ∀ k,g (k + 1) = some r) : Ev g r := ⟨1,fun k hk => by
  obtain ⟨m,rfl⟩ : ∃ m,k = m + 1 := ⟨k - 1,by omega⟩
  exact h m⟩
theorem Ev.all {α : Type} {g : Nat → Option α} {r : α} (h : ∀ k,g k = some r) : Ev g r := ⟨0,fun k _ => h k⟩
def agree {α : Type} [DecidableEq α] (a b : List α) (j : Nat) : Bool := decide (a.drop j = b.drop j)
theorem agree_step {α : Type} [DecidableEq α] {a b : List α} {j : Nat} (ha : j < a.length) (hb : j < b.length) (h : a[j] = b[j]) : agree a b j = agree a b (j + 1) := by
  unfold agree
  have e1 := List.drop_eq_getElem_cons ha
  have e2 := List.drop_eq_getElem_cons hb
  rw [decide_eq_decide,e1,e2,h,List.cons.injEq]
  exact ⟨fun c => c.2,fun c => ⟨rfl,c⟩⟩
theorem agree_no {α : Type} [DecidableEq α] {a b : List α} {j : Nat} (ha : j < a.length) (hb : j < b.length) (h : ¬ a[j] = b[j]) : agree a b j = false := by
  unfold agree
  have e1 := List.drop_eq_getElem_cons ha
  have e2 := List.drop_eq_getElem_cons hb
  rw [decide_eq_false_iff_not,e1,e2]
  intro c
  injection c with c1
  exact h c1
theorem agree_end {α : Type} [DecidableEq α] {a b : List α} (h : a.length = b.length) : agree a b a.length = true := by
  unfold agree
  simp [h]
def allFrom {α : Type} (p : α → Bool) (xs : List α) (j : Nat) : Bool := (xs.drop j).all p
theorem allFrom_step {α : Type} {p : α → Bool} {xs : List α} {j : Nat} (h : j < xs.length) : allFrom p xs j = (p xs[j] && allFrom p xs (j + 1)) := by
  unfold allFrom
  rw [List.drop_eq_getElem_cons h,List.all_cons]
theorem allFrom_end {α : Type} {p : α → Bool} (xs : List α) : allFrom p xs xs.length = true := by simp [allFrom]
theorem allFrom_zero {α : Type} (p : α → Bool) (xs : List α) : allFrom p xs 0 = xs.all p := rfl
theorem Ev.val {α : Type} {g : Nat → Option α} {r r' : α} (h : r = r') (k : Ev g r) : Ev g r' := h ▸ k
theorem Ev.ite_pos {α : Type} {c : Prop} [Decidable c] {g f : Nat → Option α} {r : α} (h : c) (k : Ev g r) : Ev (fun n => if c then g n else f n) r := by simp only [if_pos h];exact k
theorem Ev.ite_neg {α : Type} {c : Prop} [Decidable c] {g f : Nat → Option α} {r : α} (h : ¬ c) (k : Ev f r) : Ev (fun n => if c then g n else f n) r := by simp only [if_neg h];exact k
theorem yes_loop {ρ : Type} {L : Nat → Nat → Option ρ} (n : Nat) (r : ρ) (hend : Ev (L n) r) (hstep : ∀ j,j < n → Ev (L (j + 1)) r → Ev (L j) r) : Ev (L 0) r :=
  count_up (R := fun _ => r) hend hstep 0 (Nat.zero_le _)
theorem all_loop {α : Type} {L : Nat → Nat → Option Bool} (xs : List α) (p : α → Bool) {b : Bool} (hend : Ev (L xs.length) b) (hyes : ∀ j (h : j < xs.length),p xs[j] = true → ∀ r,Ev (L (j + 1)) r → Ev (L j) r) (hno : ∀ j (h : j < xs.length),p xs[j] = false → Ev (L j) false) : Ev (L 0) (xs.all p && b) := by
  have key : ∀ d j,j + d = xs.length → Ev (L j) (allFrom p xs j && b) := by
    intro d
    induction d with
    | zero =>
      intro j hj
      obtain rfl : j = xs.length := by omega
      rw [allFrom_end,Bool.true_and]
      exact hend
    | succ d ih =>
      intro j hj
      have h : j < xs.length := by omega
      rw [allFrom_step h]
      cases e : p xs[j] with
      | true => rw [Bool.true_and];exact hyes j h e _ (ih (j + 1) (by omega))
      | false => rw [Bool.false_and,Bool.false_and];exact hno j h e
  have := key xs.length 0 (by omega)
  rwa [allFrom_zero] at this
theorem yes_all {α ρ : Type} {L : Nat → Nat → Option ρ} {r : ρ} (xs : List α) (p : α → Bool) (h : xs.all p = true) (hend : Ev (L xs.length) r) (hyes : ∀ j (h : j < xs.length),p xs[j] = true → Ev (L (j + 1)) r → Ev (L j) r) : Ev (L 0) r :=
  yes_loop xs.length r hend (fun j hj ih => hyes j hj (List.all_eq_true.1 h _ (List.getElem_mem hj)) ih)
theorem no_all {α ρ : Type} {L : Nat → Nat → Option ρ} {r : ρ} (xs : List α) (p : α → Bool) (h : xs.all p = false) (hyes : ∀ j (h : j < xs.length),p xs[j] = true → Ev (L (j + 1)) r → Ev (L j) r) (hno : ∀ j (h : j < xs.length),p xs[j] = false → Ev (L j) r) : Ev (L 0) r := by
  have key : ∀ d j,j + d = xs.length → allFrom p xs j = false → Ev (L j) r := by
    intro d
    induction d with
    | zero =>
      intro j hj hf
      obtain rfl : j = xs.length := by omega
      rw [allFrom_end] at hf
      cases hf
    | succ d ih =>
      intro j hj hf
      have hlt : j < xs.length := by omega
      rw [allFrom_step hlt] at hf
      cases e : p xs[j] with
      | true => rw [e,Bool.true_and] at hf;exact hyes j hlt e (ih (j + 1) (by omega) hf)
      | false => exact hno j hlt e
  exact key xs.length 0 (by omega) (by rw [allFrom_zero];exact h)
end Go.Proofs.Ythbcnakmnbilhaa.Lp
namespace Go.Proofs.Ythbcnakmnbilhaa.Pure
open Go.RowKit Go.Proofs.Ythbcnakmnbilhaa Go.Proofs.Ythbcnakmnbilhaa.PFnLoad Go.Proofs.YthbcnakmnbilhaaW.PrintWords Go.Proofs.YthbcnakmnbilhaaW.PrintLast Go.Proofs.Ythbcnakmnbilhaa.Lp
set_option linter.unusedVariables false
set_option linter.unusedSimpArgs false
def inn (a lo hi : Int) : Bool := decide (lo ≤ a ∧ a ≤ hi)
theorem spec_l1In_eq (a lo hi : Int) : spec_l1In.f a lo hi = some (inn a lo hi) := by
  unfold spec_l1In.f inn
  by_cases h : a ≥ lo
  · rw [if_pos h];congr 1;simp;omega
  · rw [if_neg h,decide_eq_false (by omega)]
theorem impl_within_eq (a lo hi : Int) : impl_within.f a lo hi = some (inn a lo hi) := by
  unfold impl_within.f inn
  by_cases h : a ≥ lo
  · rw [if_pos h];congr 1;simp;omega
  · rw [if_neg h,decide_eq_false (by omega)]
def viewIn (m : List (List S43)) (v : List Int) (i : Nat) : Bool := inn (v.getD i 0) 0 (((m.getD i []).length : Int) - 1)
def viewOk (m : List (List S43)) (v : List Int) : Bool := decide (v.length = m.length) && (List.range v.length).all (viewIn m v)
theorem rd_cell (m : List (List S43)) (j : Nat) : rd_L4 m (j : Int) = m.getD j [] := by simp [rd_L4]
theorem rd_int (v : List Int) (j : Nat) : rd v (j : Int) = v.getD j 0 := by simp [rd]
def Small (m : List (List S43)) : Prop := m.length ≤ 1048576 ∧ ∀ c ∈ m,c.length ≤ 1048576 ∧ ∀ w ∈ c,w.f1.length ≤ 1048576
theorem Small.at {m : List (List S43)} (h : Small m) (j : Nat) : (m.getD j []).length ≤ 1048576 := by
  rw [List.getD_eq_getElem?_getD]
  cases e : m[j]? with
  | none => simp
  | some c => exact (h.2 c (List.mem_of_getElem? e)).1
theorem range_get {n j : Nat} (h : j < (List.range n).length) : (List.range n)[j] = j := by simp
theorem spec_ViewOk_ev (m : List (List S43)) (v : List Int) (hm : Small m) (hv : v.length ≤ 1048576) : Ev (fun k => spec_ViewOk.f k m v) (viewOk m v) := by
  by_cases hl : v.length = m.length
  · have key := all_loop (L := fun j k => spec_ViewOk.l0 k v (j : Int) m) (List.range v.length) (viewIn m v) (b := true) (Ev.one fun k => by
        simp only [spec_ViewOk.l0]
        rw [if_neg (by simp)])
      (fun j hj hp r ih => by
        rw [List.length_range] at hj
        rw [range_get] at hp
        have h1 := hm.at j
        refine Ev.step (fun k => ?_) ih
        simp only [spec_ViewOk.l0]
        rw [if_pos (by omega),if_pos (by omega),if_pos (by omega),rd_int,rd_cell,wrap_in (by omega) (by omega),spec_l1In_eq,Option.bind_some,if_pos (show inn (v.getD j 0) 0 (((m.getD j []).length : Int) - 1) = true from hp),wrapS hj (by omega)])
      (fun j hj hp => by
        rw [List.length_range] at hj
        rw [range_get] at hp
        have h1 := hm.at j
        refine Ev.one fun k => ?_
        simp only [spec_ViewOk.l0]
        rw [if_pos (by omega),if_pos (by omega),if_pos (by omega),rd_int,rd_cell,wrap_in (by omega) (by omega),spec_l1In_eq,Option.bind_some,if_neg (show ¬ inn (v.getD j 0) 0 (((m.getD j []).length : Int) - 1) = true from fun e => by have e' : viewIn m v j = true := e;rw [hp] at e';cases e')])
    rw [Bool.and_true] at key
    refine Ev.congr (fun k => ?_) (Ev.val (by rw [viewOk,decide_eq_true hl,Bool.true_and]) key)
    unfold spec_ViewOk.f
    rw [if_pos (by omega)]
    rfl
  · refine Ev.all fun k => ?_
    unfold spec_ViewOk.f
    rw [if_neg (by omega),viewOk,decide_eq_false hl,Bool.false_and]
theorem impl_ViewOk_ev (m : List (List S43)) (v : List Int) (hm : Small m) (hv : v.length ≤ 1048576) : Ev (fun k => impl_ViewOk.f k m v) (viewOk m v) := by
  by_cases hl : v.length = m.length
  · have key := all_loop (L := fun j k => impl_ViewOk.l0 k v (v.length : Int) (j : Int) m) (List.range v.length) (viewIn m v) (b := true) (Ev.one fun k => by
        simp only [impl_ViewOk.l0]
        rw [if_neg (by simp)])
      (fun j hj hp r ih => by
        rw [List.length_range] at hj
        rw [range_get] at hp
        have h1 := hm.at j
        refine Ev.step (fun k => ?_) ih
        simp only [impl_ViewOk.l0]
        rw [if_pos (by omega),if_pos (by omega),if_pos (by omega),if_pos (by omega),rd_int,rd_cell,wrap_in (by omega) (by omega),impl_within_eq,Option.bind_some,if_pos (show inn (v.getD j 0) 0 (((m.getD j []).length : Int) - 1) = true from hp),wrapS hj (by omega)])
      (fun j hj hp => by
        rw [List.length_range] at hj
        rw [range_get] at hp
        have h1 := hm.at j
        refine Ev.one fun k => ?_
        simp only [impl_ViewOk.l0]
        rw [if_pos (by omega),if_pos (by omega),if_pos (by omega),if_pos (by omega),rd_int,rd_cell,wrap_in (by omega) (by omega),impl_within_eq,Option.bind_some,if_neg (show ¬ inn (v.getD j 0) 0 (((m.getD j []).length : Int) - 1) = true from fun e => by have e' : viewIn m v j = true := e;rw [hp] at e';cases e')])
    rw [Bool.and_true] at key
    refine Ev.congr (fun k => ?_) (Ev.val (by rw [viewOk,decide_eq_true hl,Bool.true_and]) key)
    unfold impl_ViewOk.f
    rw [if_pos (by omega)]
    rfl
  · refine Ev.all fun k => ?_
    unfold impl_ViewOk.f
    rw [if_neg (by omega),viewOk,decide_eq_false hl,Bool.false_and]
def cellIn (m : List (List S43)) (c : List S43) : Bool := inn (c.length : Int) 1 4000 && c.all (fun w => viewOk m w.f1)
def memOk (m : List (List S43)) : Bool := m.all (cellIn m) && decide (m.length = 24)
theorem rd_write (l : List S43) (j : Nat) (h : j < l.length) : rd_T43 l (j : Int) = l[j] := by simp [rd_T43,List.getD_eq_getElem?_getD,h]
theorem rd_cell' (m : List (List S43)) (j : Nat) (h : j < m.length) : rd_L4 m (j : Int) = m[j] := by simp [rd_L4,List.getD_eq_getElem?_getD,h]
theorem spec_MemoryOk_ev (m : List (List S43)) (hm : Small m) : Ev (fun k => spec_MemoryOk.f k m) (memOk m) := by
  have hl := hm.1
  by_cases h24 : m.length = 24
  case neg =>
    refine Ev.all fun k => ?_
    unfold spec_MemoryOk.f
    rw [if_neg (by omega),memOk,decide_eq_false h24,Bool.and_false]
  simp only [spec_MemoryOk.f]
  refine Ev.ite_pos (by omega) ?_
  refine all_loop (L := fun j k => spec_MemoryOk.l0 k (j : Int) m) m (cellIn m) ?_ (fun j hj hp r ih => ?_) (fun j hj hp => ?_)
  · refine Ev.one fun k => ?_
    simp only [spec_MemoryOk.l0]
    rw [if_neg (by omega),decide_eq_true h24]
  · have hc := hm.2 m[j] (List.getElem_mem hj)
    have h1 : inn (m[j].length : Int) 1 4000 = true := by unfold cellIn at hp;rw [Bool.and_eq_true] at hp;exact hp.1
    have h2 : m[j].all (fun w => viewOk m w.f1) = true := by unfold cellIn at hp;rw [Bool.and_eq_true] at hp;exact hp.2
    refine Ev.step (fun k => by simp only [spec_MemoryOk.l0,spec_l1In_eq,Option.bind_some];rw [if_pos (by omega),if_pos (by omega),if_pos (by omega),rd_cell' m j hj,if_pos h1]) ?_
    refine yes_all (L := fun i k => spec_MemoryOk.l1 k (j : Int) (i : Int) m) m[j] (fun w => viewOk m w.f1) h2 ?_ (fun i hi hq ih' => ?_)
    · exact Ev.step (fun k => by simp only [spec_MemoryOk.l1];rw [if_pos (by omega),if_pos (by omega),rd_cell' m j hj,if_neg (by omega),wrapS hj (by omega)]) ih
    · refine Ev.step (fun k => by simp only [spec_MemoryOk.l1];rw [if_pos (by omega),if_pos (by omega),rd_cell' m j hj,if_pos (by omega),if_pos (by omega),rd_write _ i hi]) (Ev.bind (spec_ViewOk_ev m _ hm (hc.2 _ (List.getElem_mem hi))) ?_)
      refine Ev.ite_pos hq ?_
      rw [wrapS hi (by omega)]
      exact ih'
  · have hc := hm.2 m[j] (List.getElem_mem hj)
    by_cases h1 : inn (m[j].length : Int) 1 4000 = true
    · have h2 : m[j].all (fun w => viewOk m w.f1) = false := by unfold cellIn at hp;rwa [h1,Bool.true_and] at hp
      refine Ev.step (fun k => by simp only [spec_MemoryOk.l0,spec_l1In_eq,Option.bind_some];rw [if_pos (by omega),if_pos (by omega),if_pos (by omega),rd_cell' m j hj,if_pos h1]) ?_
      refine no_all (L := fun i k => spec_MemoryOk.l1 k (j : Int) (i : Int) m) m[j] (fun w => viewOk m w.f1) h2 (fun i hi hq ih' => ?_) (fun i hi hq => ?_)
      · refine Ev.step (fun k => by simp only [spec_MemoryOk.l1];rw [if_pos (by omega),if_pos (by omega),rd_cell' m j hj,if_pos (by omega),if_pos (by omega),rd_write _ i hi]) (Ev.bind (spec_ViewOk_ev m _ hm (hc.2 _ (List.getElem_mem hi))) ?_)
        refine Ev.ite_pos hq ?_
        rw [wrapS hi (by omega)]
        exact ih'
      · refine Ev.step (fun k => by simp only [spec_MemoryOk.l1];rw [if_pos (by omega),if_pos (by omega),rd_cell' m j hj,if_pos (by omega),if_pos (by omega),rd_write _ i hi]) (Ev.bind (spec_ViewOk_ev m _ hm (hc.2 _ (List.getElem_mem hi))) ?_)
        exact Ev.ite_neg (by rw [hq];simp) (Ev.now _)
    · refine Ev.one fun k => ?_
      simp only [spec_MemoryOk.l0,spec_l1In_eq,Option.bind_some]
      rw [if_pos (by omega),if_pos (by omega),if_pos (by omega),rd_cell' m j hj,if_neg h1]
theorem impl_MemoryOk_ev (m : List (List S43)) (hm : Small m) : Ev (fun k => impl_MemoryOk.f k m) (memOk m) := by
  have hl := hm.1
  refine all_loop (L := fun j k => impl_MemoryOk.l0 k m (m.length : Int) (j : Int) m) m (cellIn m) ?_ (fun j hj hp r ih => ?_) (fun j hj hp => ?_)
  · refine Ev.one fun k => ?_
    simp only [impl_MemoryOk.l0]
    rw [if_neg (by omega)]
    congr 1
    rw [Bool.eq_iff_iff]
    simp
    omega
  · have hc := hm.2 m[j] (List.getElem_mem hj)
    have h1 : inn (m[j].length : Int) 1 4000 = true := by unfold cellIn at hp;rw [Bool.and_eq_true] at hp;exact hp.1
    have h2 : m[j].all (fun w => viewOk m w.f1) = true := by unfold cellIn at hp;rw [Bool.and_eq_true] at hp;exact hp.2
    refine Ev.step (fun k => by simp only [impl_MemoryOk.l0,impl_within_eq,Option.bind_some];rw [if_pos (by omega),if_pos (by omega),if_pos (by omega),rd_cell' m j hj,if_pos h1]) ?_
    refine yes_all (L := fun i k => impl_MemoryOk.l1 k m (m.length : Int) (j : Int) m[j] (m[j].length : Int) (i : Int) m) m[j] (fun w => viewOk m w.f1) h2 ?_ (fun i hi hq ih' => ?_)
    · exact Ev.step (fun k => by simp only [impl_MemoryOk.l1];rw [if_neg (by omega),wrapS hj (by omega)]) ih
    · refine Ev.step (fun k => by simp only [impl_MemoryOk.l1];rw [if_pos (by omega),if_pos (by omega),if_pos (by omega),rd_write _ i hi]) (Ev.bind (impl_ViewOk_ev m _ hm (hc.2 _ (List.getElem_mem hi))) ?_)
      refine Ev.ite_pos hq ?_
      rw [wrapS hi (by omega)]
      exact ih'
  · have hc := hm.2 m[j] (List.getElem_mem hj)
    by_cases h1 : inn (m[j].length : Int) 1 4000 = true
    · have h2 : m[j].all (fun w => viewOk m w.f1) = false := by unfold cellIn at hp;rwa [h1,Bool.true_and] at hp
      refine Ev.step (fun k => by simp only [impl_MemoryOk.l0,impl_within_eq,Option.bind_some];rw [if_pos (by omega),if_pos (by omega),if_pos (by omega),rd_cell' m j hj,if_pos h1]) ?_
      refine no_all (L := fun i k => impl_MemoryOk.l1 k m (m.length : Int) (j : Int) m[j] (m[j].length : Int) (i : Int) m) m[j] (fun w => viewOk m w.f1) h2 (fun i hi hq ih' => ?_) (fun i hi hq => ?_)
      · refine Ev.step (fun k => by simp only [impl_MemoryOk.l1];rw [if_pos (by omega),if_pos (by omega),if_pos (by omega),rd_write _ i hi]) (Ev.bind (impl_ViewOk_ev m _ hm (hc.2 _ (List.getElem_mem hi))) ?_)
        refine Ev.ite_pos hq ?_
        rw [wrapS hi (by omega)]
        exact ih'
      · refine Ev.step (fun k => by simp only [impl_MemoryOk.l1];rw [if_pos (by omega),if_pos (by omega),if_pos (by omega),rd_write _ i hi]) (Ev.bind (impl_ViewOk_ev m _ hm (hc.2 _ (List.getElem_mem hi))) ?_)
        exact Ev.ite_neg (by rw [hq];simp) (Ev.now _)
    · refine Ev.one fun k => ?_
      simp only [impl_MemoryOk.l0,impl_within_eq,Option.bind_some]
      rw [if_pos (by omega),if_pos (by omega),if_pos (by omega),rd_cell' m j hj,if_neg h1]
theorem mem_cell {m : List (List S43)} (h : memOk m = true) {b : Int} (h0 : 0 ≤ b) (h1 : b < 24) : b < (m.length : Int) ∧ 1 ≤ (m.getD b.toNat []).length ∧ (m.getD b.toNat []).length ≤ 4000 := by
  unfold memOk at h
  simp only [Bool.and_eq_true,decide_eq_true_eq] at h
  obtain ⟨ha,hl⟩ := h
  have hj : b.toNat < m.length := by omega
  have hc := List.all_eq_true.mp ha m[b.toNat] (List.getElem_mem hj)
  unfold cellIn inn at hc
  simp only [Bool.and_eq_true,decide_eq_true_eq] at hc
  have e : m.getD b.toNat [] = m[b.toNat] := by simp [List.getD_eq_getElem?_getD,hj]
  rw [e]
  omega
theorem impl_copyInts_eq (l : List Int) (h : l.length < 17592186044416) : impl_copyInts.f l = some l := by
  simp [impl_copyInts.f,h]
def jn (a b : List Int) : List Int := List.zipWith mx a b
theorem jn_length (a b : List Int) : (jn a b).length = min a.length b.length := by simp [jn]
theorem jn_step {a b : List Int} {j : Nat} (ha : j < a.length) (hb : j < b.length) : (jn a b).take (j + 1) = (jn a b).take j ++ [mx a[j] b[j]] := by
  rw [List.take_succ_eq_append_getElem (by rw [jn_length];omega)]
  simp [jn]
theorem jn_take (a b : List Int) : (jn a b).take (min a.length b.length) = jn a b := List.take_of_length_le (by rw [jn_length];omega)
theorem spec_l1Max_eq (a b : Int) : spec_l1Max.f a b = some (mx a b) := by
  unfold spec_l1Max.f mx
  by_cases h : a > b
  · rw [if_pos h,if_neg (by omega)]
  · by_cases e : a < b
    · rw [if_neg h,if_pos e]
    · rw [if_neg h,if_neg e,show a = b by omega]
theorem spec_Join_ev (a b : List Int) (h : a.length ≤ 17592186044415) : Ev (fun k => spec_Join.f k a b) (jn a b) := by
  have key := count_up (L := fun j k => spec_Join.l0 k a b ((jn a b).take j) (j : Int)) (R := fun _ => jn a b) (n := min a.length b.length)
    (Ev.one fun k => by
      simp only [spec_Join.l0]
      by_cases hc : ((min a.length b.length : Nat) : Int) < (a.length : Int)
      · rw [if_pos hc,if_neg (by omega),jn_take]
      · rw [if_neg hc,jn_take])
    (fun j hj ih => Ev.step (fun k => by
      simp only [spec_Join.l0]
      rw [if_pos (by omega),if_pos (by omega),if_pos (by omega),spec_l1Max_eq,Option.bind_some,if_pos (by simp [jn_length];omega),rd_get (by omega),rd_get (by omega),← jn_step (by omega) (by omega),wrapS (n := a.length) (by omega) (by omega)]) ih)
  exact key 0 (Nat.zero_le _)
theorem impl_Join_ev (a b : List Int) (h : a.length ≤ 17592186044415) : Ev (fun k => impl_Join.f k a b) (jn a b) := by
  have key := count_up (L := fun j k => impl_Join.l0 k a b ((jn a b).take j) (j : Int)) (R := fun _ => jn a b) (n := min a.length b.length)
    (Ev.one fun k => by
      simp only [impl_Join.l0]
      by_cases hc : ((min a.length b.length : Nat) : Int) < (a.length : Int)
      · rw [if_pos hc,if_neg (by omega),jn_take]
      · rw [if_neg hc,jn_take])
    (fun j hj ih => Ev.step (fun k => by
      simp only [impl_Join.l0]
      rw [if_pos (by omega),if_pos (by omega),if_pos (by omega),if_pos (by simp [jn_length];omega),rd_get (by omega),rd_get (by omega),← jn_step (by omega) (by omega),wrapS (n := a.length) (by omega) (by omega)]) ih)
  exact key 0 (Nat.zero_le _)
def rightOf (m : List (List S43)) (v : List Int) (cell : Int) : Bool := memOk m && viewOk m v && inn cell 0 23
theorem right_in {m : List (List S43)} {v : List Int} {cell : Int} (h : rightOf m v cell = true) :
    memOk m = true ∧ viewOk m v = true ∧ inn cell 0 23 = true ∧ 0 ≤ cell ∧ cell < (m.length : Int) ∧ cell < (v.length : Int) ∧ m.length = 24 ∧ v.length = 24 ∧ 1 ≤ (rd_L4 m cell).length ∧ (rd_L4 m cell).length ≤ 4000 ∧ 0 ≤ rd v cell ∧ rd v cell ≤ ((rd_L4 m cell).length : Int) - 1 := by
  simp only [rightOf,Bool.and_eq_true] at h
  obtain ⟨⟨hm,hv⟩,hc⟩ := h
  have hc' := hc
  simp only [inn,decide_eq_true_eq] at hc'
  obtain ⟨g1,g2,g3⟩ := mem_cell hm hc'.1 (by omega)
  have hm2 := hm
  simp only [memOk,Bool.and_eq_true,decide_eq_true_eq] at hm2
  have hv2 := hv
  simp only [viewOk,Bool.and_eq_true,decide_eq_true_eq] at hv2
  have e : rd_L4 m cell = m.getD cell.toNat [] := rfl
  have hin := List.all_eq_true.1 hv2.2 cell.toNat (List.mem_range.2 (by omega))
  simp only [viewIn,inn,decide_eq_true_eq] at hin
  have e2 : rd v cell = v.getD cell.toNat 0 := rfl
  rw [e,e2]
  exact ⟨hm,hv,hc,hc'.1,g1,by omega,hm2.2,by omega,g2,g3,hin.1,hin.2⟩
theorem spec_Right_ev (m : List (List S43)) (hm : Small m) (v : List Int) (hv : v.length ≤ 1048576) (cell : Int) : Ev (fun k => spec_l6Right.f k m v cell) (rightOf m v cell) := by
  simp only [spec_l6Right.f,spec_l1In_eq,Option.bind_some]
  refine Ev.bind (spec_MemoryOk_ev m hm) ?_
  unfold rightOf
  by_cases a1 : memOk m = true
  case neg => rw [show memOk m = false by simpa using a1];exact Ev.ite_neg (by simp) (Ev.now _)
  rw [a1]
  refine Ev.ite_pos rfl (Ev.bind (spec_ViewOk_ev m v hm hv) ?_)
  by_cases a2 : viewOk m v = true
  case neg => rw [show viewOk m v = false by simpa using a2];exact Ev.ite_neg (by simp) (Ev.now _)
  rw [a2]
  simp only [Bool.true_and]
  exact Ev.ite_pos (by simp) (Ev.now _)
theorem impl_isCell_eq (c : Int) : impl_isCell.f c = some (inn c 0 23) := by simp [impl_isCell.f,impl_within_eq]
def whichOf (m : List (List S43)) (v : List Int) (cell late : Int) : Int := mx (((rd_L4 m cell).length : Int) - 1 - mx late 0) (rd v cell)
def loadOf (m : List (List S43)) (v : List Int) (cell late : Int) (hold : Bool) : Int × List Int :=
  ((rd_T43 (rd_L4 m cell) (whichOf m v cell late)).f0,if hold = true then jn (v.set cell.toNat (whichOf m v cell late)) (rd_T43 (rd_L4 m cell) (whichOf m v cell late)).f1 else v.set cell.toNat (whichOf m v cell late))
theorem which_in {m : List (List S43)} {v : List Int} {cell late : Int} (h : rightOf m v cell = true) : 0 ≤ whichOf m v cell late ∧ whichOf m v cell late < ((rd_L4 m cell).length : Int) := by
  obtain ⟨-,-,-,-,-,-,-,-,g1,g2,g3,g4⟩ := right_in h
  unfold whichOf mx
  split <;> split <;> omega
theorem late_wrap {late n : Int} (h0 : -9223372036854775808 ≤ late) (h1 : late ≤ 9223372036854775807) (hn : 1 ≤ n) (hn1 : n ≤ 4000) : wrap64 (wrap64 (n - 1) - mx late 0) = n - 1 - mx late 0 := by
  rw [wrap_in (n := n - 1) (by omega) (by omega)]
  refine wrap_in ?_ ?_ <;> (unfold mx;split <;> omega)
theorem impl_load_ev (m : List (List S43)) (v : List Int) (cell late : Int) (hold : Bool) (h : rightOf m v cell = true) (h0 : -9223372036854775808 ≤ late) (h1 : late ≤ 9223372036854775807) :
    Ev (fun k => impl_Memory_load.f k m v cell late hold) (loadOf m v cell late hold) := by
  obtain ⟨-,-,-,c0,c1,c2,-,cv,g1,g2,g3,g4⟩ := right_in h
  obtain ⟨w0,w1⟩ := which_in (late := late) h
  simp only [impl_Memory_load.f,late_wrap h0 h1 (n := ((rd_L4 m cell).length : Int)) (by omega) (by omega)]
  refine Ev.ite_pos c0 (Ev.ite_pos c1 (Ev.ite_pos c2 ?_))
  rw [impl_copyInts_eq v (by omega)]
  simp only [Option.bind_some]
  refine Ev.ite_pos c2 ?_
  refine Ev.ite_pos w0 (Ev.ite_pos w1 ?_)
  unfold loadOf
  cases hold
  · exact Ev.ite_neg (by simp) (Ev.now _)
  · refine Ev.ite_pos rfl ?_
    refine Ev.bind (impl_Join_ev _ _ (by rw [List.length_set];omega)) ?_
    exact Ev.now _
theorem spec_load_ev (m : List (List S43)) (v : List Int) (cell late : Int) (hold : Bool) (h : rightOf m v cell = true) (h0 : -9223372036854775808 ≤ late) (h1 : late ≤ 9223372036854775807) :
    Ev (fun k => spec_l6Load.f k m v cell late hold) (loadOf m v cell late hold) := by
  obtain ⟨-,-,-,c0,c1,c2,-,cv,g1,g2,g3,g4⟩ := right_in h
  obtain ⟨w0,w1⟩ := which_in (late := late) h
  simp only [spec_l6Load.f,spec_l1Max_eq,Option.bind_some,late_wrap h0 h1 (n := ((rd_L4 m cell).length : Int)) (by omega) (by omega)]
  refine Ev.ite_pos c0 (Ev.ite_pos c1 (Ev.ite_pos c2 ?_))
  refine Ev.ite_pos (by simp;omega) ?_
  rw [List.nil_append]
  refine Ev.ite_pos c2 ?_
  unfold loadOf
  cases hold
  · refine Ev.ite_neg (by simp) (Ev.ite_pos w0 (Ev.ite_pos w1 (Ev.now _)))
  · refine Ev.ite_pos rfl (Ev.ite_pos w0 (Ev.ite_pos w1 ?_))
    refine Ev.bind (spec_Join_ev _ _ (by rw [List.length_set];omega)) ?_
    exact Ev.now _
theorem spec_l6Copy_ev (m : List (List S43)) (hm : Small m) : Ev (fun k => spec_l6Copy.f k m) m := by
  have key := count_up (L := fun j k => spec_l6Copy.l0 k (j : Int) m (m.take j)) (R := fun _ => m) (n := m.length)
    (Ev.one fun k => by
      simp only [spec_l6Copy.l0]
      rw [if_neg (by omega),List.take_length])
    (fun i hi ih => by
      have hs := hm.2 m[i] (List.getElem_mem hi)
      have hm1 := hm.1
      have rd_e : rd_L4 m (i : Int) = m[i] := rd_cell' m i hi
      refine Ev.step (fun k => by simp only [spec_l6Copy.l0];rw [if_pos (by omega)]) ?_
      have inner := count_up (L := fun j k => spec_l6Copy.l1 k (i : Int) (m[i].take j) (j : Int) m (m.take i)) (R := fun _ => m) (n := m[i].length)
        (Ev.step (fun k => by
          simp only [spec_l6Copy.l1]
          rw [if_pos (by omega),if_pos (by omega),rd_e,if_neg (by omega),if_pos (by rw [List.length_take];omega),List.take_length,← List.take_succ_eq_append_getElem hi,wrapS hi (by omega)]) ih)
        (fun j hj ih2 => Ev.step (fun k => by
          have hw := hs.2 m[i][j] (List.getElem_mem hj)
          simp only [spec_l6Copy.l1,Option.bind_some]
          rw [if_pos (by omega),if_pos (by omega),rd_e,if_pos (by omega),if_pos (by omega),rd_write m[i] j hj,if_pos (by simp;omega),if_pos (by rw [List.length_take];omega),wrapS hj (by omega),List.nil_append]
          rw [show ([⟨m[i][j].f0,m[i][j].f1⟩] : List S43) = [m[i][j]] from rfl,← List.take_succ_eq_append_getElem hj]) ih2)
      exact inner 0 (Nat.zero_le _))
  exact key 0 (Nat.zero_le _)
def viewSt (m : List (List S43)) (v : List Int) (cell : Int) : List Int := v.set cell.toNat ((rd_L4 m cell).length : Int)
def toldOf (v : List Int) (cell : Int) (letGo : Bool) : List Int := if letGo = true then v else (List.replicate 24 0).set cell.toNat (rd v cell)
def storeOf (m : List (List S43)) (v : List Int) (cell x : Int) (letGo : Bool) : List (List S43) × List Int :=
  (m.set cell.toNat (rd_L4 m cell ++ [⟨x,toldOf (viewSt m v cell) cell letGo⟩]),viewSt m v cell)
def canSt (m : List (List S43)) (v : List Int) (cell : Int) : Bool := rightOf m v cell && decide ((rd_L4 m cell).length < 4000)
def storeAll (m : List (List S43)) (v : List Int) (cell x : Int) (letGo : Bool) : List (List S43) × List Int := if canSt m v cell = true then storeOf m v cell x letGo else (m,v)
theorem spec_l6Store_of (m : List (List S43)) (v : List Int) (cell x : Int) (letGo : Bool) (c0 : 0 ≤ cell) (c1 : cell < (m.length : Int)) (c2 : cell < (v.length : Int)) (cv : v.length = 24) (g2 : (rd_L4 m cell).length ≤ 4000) : spec_l6Store.f m v cell x letGo = some (storeOf m v cell x letGo) := by
  have hv : (viewSt m v cell).length = 24 := by simp [viewSt,cv]
  simp only [spec_l6Store.f,Option.bind_some,List.nil_append]
  rw [if_pos (by simp;omega),if_pos c0,if_pos c1,if_pos c2,if_pos (by omega),if_pos (by rw [List.length_replicate];omega)]
  have e : v.set cell.toNat ((rd_L4 m cell).length : Int) = viewSt m v cell := rfl
  rw [e]
  unfold storeOf toldOf
  cases letGo
  · rw [if_neg (by simp),if_pos (by omega),if_neg (by simp)]
  · rw [if_pos rfl,if_pos (by simp;omega),if_pos (by omega),if_pos rfl]
theorem spec_l6Store_eq (m : List (List S43)) (v : List Int) (cell x : Int) (letGo : Bool) (h : rightOf m v cell = true) : spec_l6Store.f m v cell x letGo = some (storeOf m v cell x letGo) := by
  obtain ⟨-,-,-,c0,c1,c2,-,cv,g1,g2,g3,g4⟩ := right_in h
  exact spec_l6Store_of m v cell x letGo c0 c1 c2 cv g2
theorem spec_Store_ev (m : List (List S43)) (hm : Small m) (v : List Int) (hv : v.length ≤ 1048576) (cell x : Int) (letGo : Bool) : Ev (fun k => spec_Store.f k m v cell x letGo) (storeAll m v cell x letGo) := by
  simp only [spec_Store.f]
  refine Ev.bind (spec_Right_ev m hm v hv cell) ?_
  have copied : ∀ b,b = true → Ev (fun k => spec_Store.j0 k v cell x letGo b m) (m,v) := by
    rintro b rfl
    refine Ev.step (fun k => by simp only [spec_Store.j0];rw [if_pos trivial]) ?_
    refine Ev.bind (spec_l6Copy_ev m hm) ?_
    simp only [Option.bind_some,List.nil_append]
    exact Ev.ite_pos (by simp;omega) (Ev.now _)
  by_cases hr : rightOf m v cell = true
  · rw [hr]
    obtain ⟨-,-,-,c0,c1,-,-,-,-,g2,-,-⟩ := right_in hr
    refine Ev.ite_pos rfl (Ev.ite_pos c0 (Ev.ite_pos c1 ?_))
    by_cases hl : (rd_L4 m cell).length < 4000
    · have hc : canSt m v cell = true := by simp [canSt,hr,hl]
      unfold storeAll
      rw [if_pos hc]
      refine Ev.step (fun k => by simp only [spec_Store.j0];rw [if_neg (by simp;omega)]) ?_
      refine Ev.bind (spec_l6Copy_ev m hm) ?_
      simp only [spec_l6Store_eq m v cell x letGo hr,Option.bind_some]
      exact Ev.now _
    · have hc : canSt m v cell = false := by simp [canSt,hl]
      unfold storeAll
      rw [if_neg (by simp [hc])]
      exact copied _ (by simp;omega)
  · have hc : canSt m v cell = false := by simp [canSt,hr]
    unfold storeAll
    rw [if_neg (by simp [hc])]
    refine Ev.ite_neg hr ?_
    exact copied _ rfl
theorem mem_view {m : List (List S43)} (h : memOk m = true) {cell j : Int} (c0 : 0 ≤ cell) (c1 : cell < 24) (j0 : 0 ≤ j) (j1 : j < ((rd_L4 m cell).length : Int)) : (rd_T43 (rd_L4 m cell) j).f1.length = 24 := by
  have hm := h
  simp only [memOk,Bool.and_eq_true,decide_eq_true_eq] at hm
  have hi : cell.toNat < m.length := by omega
  have e : rd_L4 m cell = m[cell.toNat] := by simp [rd_L4,List.getD_eq_getElem?_getD,hi]
  have hc := List.all_eq_true.1 hm.1 m[cell.toNat] (List.getElem_mem hi)
  simp only [cellIn,Bool.and_eq_true] at hc
  rw [e] at j1 ⊢
  have hj : j.toNat < (m[cell.toNat]).length := by omega
  have e2 : rd_T43 m[cell.toNat] j = (m[cell.toNat])[j.toNat] := by simp [rd_T43,List.getD_eq_getElem?_getD,hj]
  have hv := List.all_eq_true.1 hc.2 (m[cell.toNat])[j.toNat] (List.getElem_mem hj)
  simp only [viewOk,Bool.and_eq_true,decide_eq_true_eq] at hv
  rw [e2]
  omega
def swapOf (m : List (List S43)) (v : List Int) (cell x : Int) : List (List S43) × List Int × Int :=
  ((storeOf m (loadOf m v cell 0 true).2 cell x true).1,(storeOf m (loadOf m v cell 0 true).2 cell x true).2,(loadOf m v cell 0 true).1)
def swapAll (m : List (List S43)) (v : List Int) (cell x : Int) : List (List S43) × List Int × Int := if canSt m v cell = true then swapOf m v cell x else (m,v,0)
theorem now_len {m : List (List S43)} {v : List Int} {cell : Int} (h : rightOf m v cell = true) (late : Int) : (loadOf m v cell late true).2.length = 24 := by
  obtain ⟨hm,-,hi,c0,c1,c2,hl,cv,g1,g2,g3,g4⟩ := right_in h
  obtain ⟨w0,w1⟩ := which_in (late := late) h
  have := mem_view hm c0 (by omega) w0 w1
  show (jn _ _).length = 24
  rw [jn_length,List.length_set]
  omega
theorem spec_Swap_ev (m : List (List S43)) (hm : Small m) (v : List Int) (hv : v.length ≤ 1048576) (cell x : Int) : Ev (fun k => spec_Swap.f k m v cell x) (swapAll m v cell x) := by
  simp only [spec_Swap.f]
  refine Ev.bind (spec_Right_ev m hm v hv cell) ?_
  have copied : ∀ b,b = true → Ev (fun k => spec_Swap.j0 k v cell x b m) (m,v,0) := by
    rintro b rfl
    refine Ev.step (fun k => by simp only [spec_Swap.j0];rw [if_pos trivial]) ?_
    refine Ev.bind (spec_l6Copy_ev m hm) ?_
    simp only [Option.bind_some,List.nil_append]
    exact Ev.ite_pos (by simp;omega) (Ev.now _)
  by_cases hr : rightOf m v cell = true
  · rw [hr]
    obtain ⟨-,-,-,c0,c1,c2,-,cv,-,g2,-,-⟩ := right_in hr
    have hn := now_len hr 0
    refine Ev.ite_pos rfl (Ev.ite_pos c0 (Ev.ite_pos c1 ?_))
    by_cases hl : (rd_L4 m cell).length < 4000
    · have hc : canSt m v cell = true := by simp [canSt,hr,hl]
      unfold swapAll
      rw [if_pos hc]
      refine Ev.step (fun k => by simp only [spec_Swap.j0];rw [if_neg (by simp;omega)]) ?_
      refine Ev.bind (spec_load_ev m v cell 0 true hr (by omega) (by omega)) ?_
      refine Ev.bind (spec_l6Copy_ev m hm) ?_
      simp only [spec_l6Store_of m (loadOf m v cell 0 true).2 cell x true c0 c1 (by omega) hn g2,Option.bind_some]
      exact Ev.now _
    · have hc : canSt m v cell = false := by simp [canSt,hl]
      unfold swapAll
      rw [if_neg (by simp [hc])]
      exact copied _ (by simp;omega)
  · have hc : canSt m v cell = false := by simp [canSt,hr]
    unfold swapAll
    rw [if_neg (by simp [hc])]
    refine Ev.ite_neg hr ?_
    exact copied _ rfl
def cell0 : List S43 := [⟨0,List.replicate 24 0⟩]
def mem0 : List (List S43) := List.replicate 24 cell0
theorem mem0_step {j : Nat} (h : j < 24) : List.replicate j cell0 ++ [cell0] = List.replicate (j + 1) cell0 := List.replicate_succ'.symm
theorem spec_MemoryNew_ev : Ev (fun k => spec_MemoryNew.f k) mem0 := by
  have key := count_up (L := fun j k => spec_MemoryNew.l0 k (j : Int) (List.replicate j cell0)) (R := fun _ => mem0) (n := 24)
    (Ev.one fun k => by
      simp only [spec_MemoryNew.l0]
      rw [if_neg (by omega)]
      rfl)
    (fun j hj ih => Ev.step (fun k => by
      simp only [spec_MemoryNew.l0]
      rw [if_pos (by omega),if_pos (by omega),if_pos (by rw [List.length_replicate];omega),wrapS (n := 24) (by omega) (by omega)]
      rw [show ([⟨0,List.replicate 24 0⟩] : List S43) = cell0 from rfl,mem0_step hj]) ih)
  exact key 0 (Nat.zero_le _)
theorem small_ok {m : List (List S43)} (h : memOk m = true) : Small m := by
  simp only [memOk,Bool.and_eq_true,decide_eq_true_eq] at h
  refine ⟨by omega,fun c hc => ?_⟩
  have h1 := List.all_eq_true.1 h.1 c hc
  simp only [cellIn,inn,Bool.and_eq_true,decide_eq_true_eq] at h1
  refine ⟨by omega,fun w hw => ?_⟩
  have h2 := List.all_eq_true.1 h1.2 w hw
  simp only [viewOk,Bool.and_eq_true,decide_eq_true_eq] at h2
  omega
theorem viewOk_iff (m : List (List S43)) (v : List Int) : viewOk m v = true ↔ v.length = m.length ∧ ∀ j,j < v.length → 0 ≤ v.getD j 0 ∧ v.getD j 0 ≤ ((m.getD j []).length : Int) - 1 := by
  simp only [viewOk,Bool.and_eq_true,decide_eq_true_eq,List.all_eq_true,List.mem_range,viewIn,inn]
theorem getD_set {α : Type} (l : List α) (i j : Nat) (x d : α) (hi : i < l.length) : (l.set i x).getD j d = if i = j then x else l.getD j d := by
  simp only [List.getD_eq_getElem?_getD,List.getElem?_set]
  by_cases e : i = j
  · subst e;simp [hi]
  · simp [e]
theorem rep_zero (n j : Nat) : (List.replicate n (0 : Int)).getD j 0 = 0 := by
  rw [List.getD_eq_getElem?_getD,List.getElem?_replicate]
  split <;> rfl
theorem viewOk_grow {m : List (List S43)} {i : Nat} (hi : i < m.length) {c : List S43} (hc : (m.getD i []).length ≤ c.length) {u : List Int} (h : viewOk m u = true) : viewOk (m.set i c) u = true := by
  rw [viewOk_iff] at h ⊢
  refine ⟨by rw [List.length_set];exact h.1,fun j hj => ?_⟩
  obtain ⟨h1,h2⟩ := h.2 j hj
  refine ⟨h1,?_⟩
  rw [getD_set _ _ _ _ _ hi]
  split
  · next e => subst e;omega
  · exact h2
theorem store_right {m : List (List S43)} {v : List Int} {cell : Int} (hm : memOk m = true) (hv : viewOk m v = true) (c0 : 0 ≤ cell) (c1 : cell < 24) (hl : (rd_L4 m cell).length < 4000) (x : Int) (g : Bool) :
    memOk (storeOf m v cell x g).1 = true ∧ viewOk (storeOf m v cell x g).1 (storeOf m v cell x g).2 = true := by
  have hm2 := hm
  simp only [memOk,Bool.and_eq_true,decide_eq_true_eq] at hm2
  have hi : cell.toNat < m.length := by omega
  have e : rd_L4 m cell = m.getD cell.toNat [] := rfl
  have e2 : m.getD cell.toNat [] = m[cell.toNat] := by simp [List.getD_eq_getElem?_getD,hi]
  obtain ⟨-,g1,g2⟩ := mem_cell hm c0 c1
  have hv2 := (viewOk_iff m v).1 hv
  have hc : (m.getD cell.toNat []).length ≤ (rd_L4 m cell ++ [(⟨x,toldOf (viewSt m v cell) cell g⟩ : S43)]).length := by rw [e,List.length_append];omega
  have len2 : (rd_L4 m cell ++ [(⟨x,toldOf (viewSt m v cell) cell g⟩ : S43)]).length = (m.getD cell.toNat []).length + 1 := by rw [e,List.length_append];rfl
  have hst : viewOk (storeOf m v cell x g).1 (viewSt m v cell) = true := by
    rw [viewOk_iff]
    refine ⟨by simp [storeOf,viewSt,hv2.1],fun j hj => ?_⟩
    have hj2 : j < v.length := by simpa [viewSt] using hj
    obtain ⟨h1,h2⟩ := hv2.2 j hj2
    simp only [storeOf,viewSt]
    rw [getD_set _ _ _ _ _ hi,getD_set _ _ _ _ _ (by omega)]
    by_cases ej : cell.toNat = j
    · rw [if_pos ej,if_pos ej,List.length_append,e]
      simp only [List.length_cons,List.length_nil]
      omega
    · rw [if_neg ej,if_neg ej];exact ⟨h1,h2⟩
  have htold : viewOk (storeOf m v cell x g).1 (toldOf (viewSt m v cell) cell g) = true := by
    unfold toldOf
    cases g
    · rw [if_neg (by simp),viewOk_iff]
      refine ⟨by simp [storeOf];omega,fun j hj => ?_⟩
      have hj2 : j < 24 := by simpa using hj
      have hjc := mem_cell hm (b := (j : Int)) (by omega) (by omega)
      have er : rd (viewSt m v cell) cell = ((rd_L4 m cell).length : Int) := by
        show (viewSt m v cell).getD cell.toNat 0 = _
        unfold viewSt
        rw [getD_set _ _ _ _ _ (by omega),if_pos rfl]
      simp only [storeOf]
      rw [getD_set _ _ _ _ _ hi,getD_set _ _ _ _ _ (by simp;omega),er]
      by_cases ej : cell.toNat = j
      · rw [if_pos ej,if_pos ej]
        simp only [toldOf] at len2 ⊢
        rw [e,List.length_append]
        simp only [List.length_cons,List.length_nil]
        omega
      · rw [if_neg ej,if_neg ej]
        rw [rep_zero]
        have e3 : ((j : Int)).toNat = j := by omega
        rw [e3] at hjc
        omega
    · rw [if_pos rfl];exact hst
  refine ⟨?_,hst⟩
  simp only [memOk,Bool.and_eq_true,decide_eq_true_eq,List.all_eq_true]
  refine ⟨fun c hcm => ?_,by simp [storeOf];omega⟩
  have key : ∀ u,viewOk m u = true → viewOk (storeOf m v cell x g).1 u = true := fun u hu => viewOk_grow hi hc hu
  rcases List.mem_or_eq_of_mem_set (show c ∈ m.set cell.toNat _ from hcm) with h1 | h1
  · have h2 := List.all_eq_true.1 hm2.1 c h1
    simp only [cellIn,Bool.and_eq_true,List.all_eq_true] at h2 ⊢
    exact ⟨h2.1,fun w hw => key _ (h2.2 w hw)⟩
  · subst h1
    have h2 := List.all_eq_true.1 hm2.1 m[cell.toNat] (List.getElem_mem hi)
    simp only [cellIn,Bool.and_eq_true,List.all_eq_true] at h2 ⊢
    refine ⟨by rw [len2];simp only [inn,decide_eq_true_eq];rw [e2] at g1 g2;rw [e,e2] at hl;rw [e2];omega,fun w hw => ?_⟩
    rcases List.mem_append.1 hw with hw | hw
    · rw [e,e2] at hw
      exact key _ (h2.2 w hw)
    · rw [List.mem_singleton.1 hw];exact htold
def loadAll (m : List (List S43)) (v : List Int) (cell late : Int) (hold : Bool) : Int × List Int := if rightOf m v cell = true then loadOf m v cell late hold else (0,v)
theorem impl_Load_ev (m : List (List S43)) (hm : Small m) (v : List Int) (hv : v.length ≤ 1048576) (cell late : Int) (hold : Bool) (h0 : -9223372036854775808 ≤ late) (h1 : late ≤ 9223372036854775807) :
    Ev (fun k => impl_Load.f k m v cell late hold) (loadAll m v cell late hold) := by
  simp only [impl_Load.f,Option.bind_some,impl_isCell_eq]
  have copied : ∀ b,b = true → Ev (fun k => impl_Load.j0 k v cell late hold b m) (0,v) := by
    rintro b rfl
    refine Ev.one fun k => ?_
    simp only [impl_Load.j0]
    rw [if_pos trivial,impl_copyInts_eq v (by omega),Option.bind_some]
  unfold loadAll
  refine Ev.bind (impl_MemoryOk_ev m hm) ?_
  by_cases a1 : memOk m = true
  case neg => rw [if_neg (fun c => a1 (right_in c).1)];exact Ev.ite_neg a1 (copied _ rfl)
  refine Ev.ite_pos a1 (Ev.bind (impl_ViewOk_ev m v hm hv) ?_)
  by_cases a2 : viewOk m v = true
  case neg => rw [if_neg (fun c => a2 (right_in c).2.1)];exact Ev.ite_neg a2 (copied _ rfl)
  refine Ev.ite_pos a2 ?_
  by_cases a3 : inn cell 0 23 = true
  case neg => rw [if_neg (fun c => a3 (right_in c).2.2.1)];exact copied _ (by simp [a3])
  have hr : rightOf m v cell = true := by simp [rightOf,a1,a2,a3]
  rw [if_pos hr]
  refine Ev.step (fun k => by simp only [impl_Load.j0];rw [if_neg (by simp [a3])]) ?_
  exact Ev.bind (impl_load_ev m v cell late hold hr h0 h1) (Ev.now _)
theorem spec_Load_ev (m : List (List S43)) (hm : Small m) (v : List Int) (hv : v.length ≤ 1048576) (cell late : Int) (hold : Bool) (h0 : -9223372036854775808 ≤ late) (h1 : late ≤ 9223372036854775807) :
    Ev (fun k => spec_Load.f k m v cell late hold) (loadAll m v cell late hold) := by
  simp only [spec_Load.f,Option.bind_some]
  refine Ev.bind (spec_Right_ev m hm v hv cell) ?_
  unfold loadAll
  by_cases hr : rightOf m v cell = true
  · rw [if_pos hr]
    refine Ev.ite_pos hr ?_
    exact Ev.bind (spec_load_ev m v cell late hold hr h0 h1) (Ev.now _)
  · rw [if_neg hr]
    refine Ev.ite_neg hr (Ev.ite_pos (by simp;omega) ?_)
    exact Ev.now _
theorem jn_get (a b : List Int) (j : Nat) (ha : j < a.length) (hb : j < b.length) : (jn a b).getD j 0 = mx (a.getD j 0) (b.getD j 0) := by
  have h : j < (jn a b).length := by rw [jn_length];omega
  simp only [List.getD_eq_getElem?_getD,List.getElem?_eq_getElem h,List.getElem?_eq_getElem ha,List.getElem?_eq_getElem hb,Option.getD_some]
  simp [jn]
theorem mem_viewOk {m : List (List S43)} (h : memOk m = true) {cell j : Int} (c0 : 0 ≤ cell) (c1 : cell < 24) (j0 : 0 ≤ j) (j1 : j < ((rd_L4 m cell).length : Int)) : viewOk m (rd_T43 (rd_L4 m cell) j).f1 = true := by
  have hm := h
  simp only [memOk,Bool.and_eq_true,decide_eq_true_eq] at hm
  have hi : cell.toNat < m.length := by omega
  have e : rd_L4 m cell = m[cell.toNat] := by simp [rd_L4,List.getD_eq_getElem?_getD,hi]
  have hc := List.all_eq_true.1 hm.1 m[cell.toNat] (List.getElem_mem hi)
  simp only [cellIn,Bool.and_eq_true] at hc
  rw [e] at j1 ⊢
  have hj : j.toNat < (m[cell.toNat]).length := by omega
  have e2 : rd_T43 m[cell.toNat] j = (m[cell.toNat])[j.toNat] := by simp [rd_T43,List.getD_eq_getElem?_getD,hj]
  rw [e2]
  exact List.all_eq_true.1 hc.2 (m[cell.toNat])[j.toNat] (List.getElem_mem hj)
theorem set_right {m : List (List S43)} {v : List Int} {cell late : Int} (h : rightOf m v cell = true) : viewOk m (v.set cell.toNat (whichOf m v cell late)) = true := by
  obtain ⟨hm,hv,hi,c0,c1,c2,hl,cv,g1,g2,g3,g4⟩ := right_in h
  obtain ⟨w0,w1⟩ := which_in (late := late) h
  rw [viewOk_iff] at hv ⊢
  refine ⟨by rw [List.length_set];exact hv.1,fun j hj => ?_⟩
  rw [List.length_set] at hj
  rw [getD_set _ _ _ _ _ (by omega)]
  by_cases e : cell.toNat = j
  · rw [if_pos e]
    have e2 : rd_L4 m cell = m.getD cell.toNat [] := rfl
    rw [e2] at w1
    subst e
    omega
  · rw [if_neg e];exact hv.2 j hj
theorem load_right {m : List (List S43)} {v : List Int} {cell : Int} (h : rightOf m v cell = true) (late : Int) (hold : Bool) : viewOk m (loadOf m v cell late hold).2 = true := by
  have hs := set_right (late := late) h
  obtain ⟨hm,hv,hi,c0,c1,c2,hl,cv,g1,g2,g3,g4⟩ := right_in h
  obtain ⟨w0,w1⟩ := which_in (late := late) h
  unfold loadOf
  dsimp only
  cases hold
  · rw [if_neg (by simp)];exact hs
  · rw [if_pos rfl]
    have ht := mem_viewOk hm c0 (by omega) w0 w1
    rw [viewOk_iff] at hs ht ⊢
    refine ⟨by rw [jn_length];omega,fun j hj => ?_⟩
    rw [jn_length] at hj
    rw [jn_get _ _ _ (by omega) (by omega)]
    have h1 := hs.2 j (by omega)
    have h2 := ht.2 j (by omega)
    unfold mx
    split <;> omega
theorem store_inv {m : List (List S43)} {v u : List Int} {cell : Int} (hm : memOk m = true) (hv : viewOk m v = true) (hu : viewOk m u = true) (c0 : 0 ≤ cell) (c1 : cell < 24) {n : Nat} (hn : n < 4000) (hl : ∀ c ∈ m,c.length ≤ n) (x : Int) (g : Bool) :
    canSt m v cell = true ∧ memOk (storeOf m v cell x g).1 = true ∧ viewOk (storeOf m v cell x g).1 (storeOf m v cell x g).2 = true ∧ viewOk (storeOf m v cell x g).1 u = true ∧ ∀ c ∈ (storeOf m v cell x g).1,c.length ≤ n + 1 := by
  have hm2 := hm
  simp only [memOk,Bool.and_eq_true,decide_eq_true_eq] at hm2
  have hi : cell.toNat < m.length := by omega
  have e : rd_L4 m cell = m[cell.toNat] := by simp [rd_L4,List.getD_eq_getElem?_getD,hi]
  have e3 : m.getD cell.toNat [] = m[cell.toNat] := by simp [List.getD_eq_getElem?_getD,hi]
  have hlc : (rd_L4 m cell).length ≤ n := by rw [e];exact hl _ (List.getElem_mem hi)
  obtain ⟨r1,r2⟩ := store_right hm hv c0 c1 (by omega) x g
  refine ⟨?_,r1,r2,viewOk_grow hi (by rw [List.length_append,e,e3];omega) hu,fun c hc => ?_⟩
  · have hc : inn cell 0 23 = true := by simp only [inn,decide_eq_true_eq];omega
    simp only [canSt,rightOf,hm,hv,hc,Bool.and_self,Bool.true_and,decide_eq_true_eq]
    omega
  · rcases List.mem_or_eq_of_mem_set (show c ∈ m.set cell.toNat _ from hc) with h1 | h1
    · have := hl c h1;omega
    · subst h1
      rw [List.length_append]
      simp only [List.length_cons,List.length_nil]
      omega
def geq : List Int → List Int → Bool
  | [],[] => true
  | x :: xs,y :: ys => decide (y ≤ x) && geq xs ys
  | _,_ => false
theorem geq_step {a b : List Int} {j : Nat} (ha : j < a.length) (hb : j < b.length) : geq (a.drop j) (b.drop j) = (decide (b[j] ≤ a[j]) && geq (a.drop (j + 1)) (b.drop (j + 1))) := by
  rw [List.drop_eq_getElem_cons ha,List.drop_eq_getElem_cons hb,geq]
theorem geq_len : ∀ {a b : List Int},a.length ≠ b.length → geq a b = false
  | [],[],h => by simp at h
  | [],_ :: _,_ => rfl
  | _ :: _,[],_ => rfl
  | x :: xs,y :: ys,h => by
    have := geq_len (a := xs) (b := ys) (by simpa using h)
    simp [geq,this]
theorem geq_end {a b : List Int} {n : Nat} (h : n = min a.length b.length) : geq (a.drop n) (b.drop n) = ((a.length : Int) == (b.length : Int)) := by
  by_cases e : a.length = b.length
  · have h1 : a.drop n = [] := by simp;omega
    have h2 : b.drop n = [] := by simp;omega
    simp [h1,h2,geq,e]
  · rw [geq_len (by simp;omega)]
    symm
    simp
    omega
theorem geq_of : ∀ {a b : List Int},a.length = b.length → (∀ j,j < a.length → b.getD j 0 ≤ a.getD j 0) → geq a b = true
  | [],[],_,_ => rfl
  | x :: xs,y :: ys,hl,h => by
    have h0 := h 0 (by simp)
    have ih := geq_of (a := xs) (b := ys) (by simpa using hl) (fun j hj => by have := h (j + 1) (by simpa using hj);simpa using this)
    simp only [List.getD_cons_zero] at h0
    simp [geq,h0,ih]
  | [],_ :: _,hl,_ => by simp at hl
  | _ :: _,[],hl,_ => by simp at hl
theorem load_knows {m : List (List S43)} {v : List Int} {cell : Int} (h : rightOf m v cell = true) (late : Int) (hold : Bool) : geq (loadOf m v cell late hold).2 v = true := by
  have hr := load_right h late hold
  obtain ⟨hm,hv,hi,c0,c1,c2,hl,cv,g1,g2,g3,g4⟩ := right_in h
  obtain ⟨w0,w1⟩ := which_in (late := late) h
  have hw : rd v cell ≤ whichOf m v cell late := by unfold whichOf mx;split <;> split <;> omega
  have e2 : rd v cell = v.getD cell.toNat 0 := rfl
  have hs : ∀ j,j < v.length → v.getD j 0 ≤ (v.set cell.toNat (whichOf m v cell late)).getD j 0 := fun j hj => by
    rw [getD_set _ _ _ _ _ (by omega)]
    split
    · next e => subst e;omega
    · omega
  have hlen : (loadOf m v cell late hold).2.length = v.length := by
    simp only [viewOk,Bool.and_eq_true,decide_eq_true_eq] at hr
    omega
  refine geq_of hlen (fun j hj => ?_)
  rw [hlen] at hj
  have h1 := hs j hj
  unfold loadOf at hlen ⊢
  dsimp only at hlen ⊢
  cases hold
  · rw [if_neg (by simp)];exact h1
  · rw [if_pos rfl] at hlen ⊢
    rw [jn_length,List.length_set] at hlen
    rw [jn_get _ _ _ (by rw [List.length_set];omega) (by omega)]
    unfold mx
    split <;> omega
theorem impl_Knows_ev (a b : List Int) (h : a.length ≤ 9223372036854775807) : Ev (fun k => impl_Knows.f k a b) (geq a b) := by
  by_cases hl : a.length = b.length
  · have key := count_up (L := fun j k => impl_Knows.l0 k a b (b.length : Int) (j : Int)) (R := fun j => geq (a.drop j) (b.drop j)) (n := b.length)
      (Ev.one fun k => by
        simp only [impl_Knows.l0]
        rw [if_neg (by omega),geq_end (by omega)]
        simp [hl])
      (fun j hj ih => by
        by_cases e : a[j]'(by omega) < b[j]'(by omega)
        · refine Ev.one fun k => ?_
          simp only [impl_Knows.l0]
          rw [if_pos (by omega),if_pos (by omega),if_pos (by omega),if_pos (by omega),if_pos (by rw [rd_get (by omega),rd_get (by omega)];exact e),geq_step (by omega) (by omega),decide_eq_false (by omega)]
          rfl
        · refine Ev.step (fun k => ?_) (by rw [geq_step (by omega) (by omega),decide_eq_true (by omega),Bool.true_and];exact ih)
          simp only [impl_Knows.l0]
          rw [if_pos (by omega),if_pos (by omega),if_pos (by omega),if_pos (by omega),if_neg (by rw [rd_get (by omega),rd_get (by omega)];exact e),wrapS hj (by omega)])
    refine Ev.congr (fun k => ?_) (key 0 (Nat.zero_le _))
    unfold impl_Knows.f
    rw [if_pos (by omega)]
    rfl
  · refine Ev.all fun k => ?_
    unfold impl_Knows.f
    rw [if_neg (by omega),geq_len hl]
theorem sameInts_ev (a b : List Int) (h : a.length ≤ 9223372036854775807) : Ev (fun k => laws_sameInts.f k a b) (decide (a = b)) := by
  by_cases hl : a.length = b.length
  · have key := count_up (L := fun j k => laws_sameInts.l0 k a b (j : Int)) (R := fun j => agree a b j) (n := a.length)
      (Ev.one fun k => by simp [laws_sameInts.l0,agree_end hl])
      (fun j hj ih => by
        by_cases e : a[j] = b[j]
        · exact Ev.step (fun k => by
            simp only [laws_sameInts.l0]
            rw [if_pos (by omega),if_pos (by omega),if_pos (by omega),if_pos (by rw [rd_get hj,rd_get (by omega),e]),wrapS hj (by omega)]) (by rw [agree_step hj (by omega) e];exact ih)
        · exact Ev.one fun k => by
            simp only [laws_sameInts.l0]
            rw [if_pos (by omega),if_pos (by omega),if_pos (by omega),if_neg (by rw [rd_get hj,rd_get (by omega)];exact e),agree_no hj (by omega) e])
    refine Ev.congr (fun k => ?_) (key 0 (Nat.zero_le _))
    unfold laws_sameInts.f
    rw [if_pos (by omega)]
    rfl
  · refine Ev.all fun k => ?_
    unfold laws_sameInts.f
    rw [if_neg (by omega),decide_eq_false (fun e => hl (by rw [e]))]
theorem sameInts_self (a : List Int) (h : a.length ≤ 9223372036854775807) : Ev (fun k => laws_sameInts.f k a a) true := by
  have := sameInts_ev a a h
  simpa using this
theorem and255 (n : Int) : Go.bits .and .i64 n 255 = n % 256 := by
  have h : (BitVec.ofInt 64 255).toNat = 2 ^ 8 - 1 := by decide
  have key : (BitVec.ofInt 64 n &&& BitVec.ofInt 64 255).toNat = (n % ((2 ^ 64 : Nat) : Int)).toNat % 2 ^ 8 := by
    rw [BitVec.toNat_and,BitVec.toNat_ofInt,h,Nat.and_two_pow_sub_one_eq_mod]
  show IntKind.i64.wrap ((BitVec.ofInt 64 n &&& BitVec.ofInt 64 255).toNat : Nat) = n % 256
  rw [key,IntKind.wrap_i64]
  omega
def Cur (b : List Int) (i : Int) : Prop := 0 ≤ i ∧ i ≤ (b.length : Int) ∧ (b.length : Int) ≤ 1048576
theorem l1Byte_eq (b : List Int) (i h : Int) (c : Cur b i) : ∃ x i' h',spec_l1Byte.f b i h = some (x,i',h') ∧ (0 ≤ x ∧ x ≤ 255) ∧ Cur b i' := by
  obtain ⟨c0,c1,c2⟩ := c
  unfold spec_l1Byte.f
  by_cases e : i < (b.length : Int)
  · rw [if_pos e,if_pos c0,and255,wrap_in (n := i + 1) (by omega) (by omega)]
    exact ⟨_,_,_,rfl,by omega,by omega,by omega,c2⟩
  · rw [if_neg e,and255]
    exact ⟨_,_,_,rfl,by omega,c0,c1,c2⟩
theorem l1Below_eq (b : List Int) (i h n : Int) (c : Cur b i) : ∃ x i' h',spec_l1Below.f b i h n = some (x,i',h') ∧ (0 ≤ x ∧ (0 < n → x < n) ∧ (n ≤ 0 → x = 0)) ∧ Cur b i' := by
  unfold spec_l1Below.f
  by_cases h0 : n ≤ 0
  · rw [if_pos h0]
    exact ⟨_,_,_,rfl,⟨by omega,by omega,fun _ => rfl⟩,c⟩
  · rw [if_neg h0]
    obtain ⟨x1,i1,h1,e1,b1,c1⟩ := l1Byte_eq b i h c
    by_cases h2 : n ≤ 256
    · rw [if_pos h2,e1]
      simp only [Option.bind_some]
      rw [if_neg (by omega)]
      exact ⟨_,_,_,rfl,⟨Int.tmod_nonneg _ (by omega),fun _ => Int.tmod_lt_of_pos _ (by omega),fun h => absurd h h0⟩,c1⟩
    · obtain ⟨x2,i2,h2',e2,b2,c2⟩ := l1Byte_eq b i1 h1 c1
      obtain ⟨x3,i3,h3',e3,b3,c3⟩ := l1Byte_eq b i2 h2' c2
      obtain ⟨x4,i4,h4',e4,b4,c4⟩ := l1Byte_eq b i3 h3' c3
      rw [if_neg h2,e1]
      simp only [Option.bind_some,e2,e3,e4]
      rw [if_neg (by omega),wrap_in (n := x1 * 16777216) (by omega) (by omega),wrap_in (n := x2 * 65536) (by omega) (by omega),wrap_in (n := x3 * 256) (by omega) (by omega),wrap_in (n := x1 * 16777216 + x2 * 65536) (by omega) (by omega),wrap_in (n := x1 * 16777216 + x2 * 65536 + x3 * 256) (by omega) (by omega),wrap_in (by omega) (by omega)]
      exact ⟨_,_,_,rfl,⟨Int.tmod_nonneg _ (by omega),fun _ => Int.tmod_lt_of_pos _ (by omega),fun h => absurd h h0⟩,c4⟩
theorem l1New_ev (b : List Int) (hb : b.length ≤ 1048576) : ∃ h,Ev (fun k => spec_l1New.f k b) (b,0,h) ∧ Cur b 0 := by
  have key : ∀ d j h,j + d = min b.length 4000 → ∃ h',Ev (fun k => spec_l1New.l0 k b h (j : Int)) (b,0,h') := by
    intro d
    induction d with
    | zero =>
      intro j h hj
      refine ⟨h,Ev.one fun k => ?_⟩
      simp only [spec_l1New.l0]
      by_cases c : (j : Int) < (b.length : Int)
      · rw [if_pos c,if_neg (by omega)]
      · rw [if_neg c]
    | succ d ih =>
      intro j h hj
      obtain ⟨h',e⟩ := ih (j + 1) _ (by omega)
      exact ⟨h',Ev.step (fun k => by
        simp only [spec_l1New.l0]
        rw [if_pos (by omega),if_pos (by omega),if_pos (by omega),wrapS (n := b.length) (by omega) (by omega)]) e⟩
  obtain ⟨h',e⟩ := key _ 0 _ (Nat.zero_add _)
  exact ⟨h',e,by omega,by omega,by omega⟩
theorem l1Once_eq (b : List Int) (i h n : Int) (c : Cur b i) : ∃ (x : Bool) (i' h' : Int),spec_l1Once.f b i h n = some (x,i',h') ∧ Cur b i' := by
  obtain ⟨x,i',h',e,_,c'⟩ := l1Below_eq b i h n c
  exact ⟨_,_,_,by unfold spec_l1Once.f;rw [e];rfl,c'⟩
theorem l1PickInt_eq (b : List Int) (i h : Int) (l : List Int) (hl : 0 < l.length) (c : Cur b i) : ∃ x i' h',spec_l1PickInt.f b i h l = some (x,i',h') ∧ x ∈ l ∧ Cur b i' := by
  obtain ⟨x,i',h',e,⟨h0,h1,_⟩,c'⟩ := l1Below_eq b i h (l.length : Int) c
  have h1' := h1 (by omega)
  refine ⟨_,_,_,by unfold spec_l1PickInt.f;rw [e];simp only [Option.bind_some];rw [if_pos h0,if_pos h1'],?_,c'⟩
  obtain ⟨j,rfl⟩ := Int.eq_ofNat_of_zero_le h0
  rw [rd_get (by omega)]
  exact List.getElem_mem _
def DE {α : Type} (g : Nat → Option α) (P : α → Prop) : Prop := ∃ r,Ev g r ∧ P r
theorem DE.bind {α β : Type} {g : Nat → Option α} {f : α → Nat → Option β} {P : α → Prop} {Q : β → Prop} (h : DE g P) (k : ∀ x,P x → DE (f x) Q) : DE (fun n => (g n).bind fun x => f x n) Q := by
  obtain ⟨r,e,p⟩ := h
  obtain ⟨r',e',q⟩ := k r p
  exact ⟨r',Ev.bind e e',q⟩
theorem DE.now {α : Type} {r : α} {Q : α → Prop} (h : Q r) : DE (fun _ => some r) Q := ⟨r,Ev.now _,h⟩
theorem DE.ite {α : Type} {c : Prop} [Decidable c] {g f : Nat → Option α} {Q : α → Prop} (h : c → DE g Q) (k : ¬ c → DE f Q) : DE (fun n => if c then g n else f n) Q := by
  by_cases e : c
  · simp only [if_pos e];exact h e
  · simp only [if_neg e];exact k e
theorem DE.pos {α : Type} {c : Prop} [Decidable c] {g f : Nat → Option α} {Q : α → Prop} (e : c) (h : DE g Q) : DE (fun n => if c then g n else f n) Q := by simp only [if_pos e];exact h
theorem DE.neg {α : Type} {c : Prop} [Decidable c] {g f : Nat → Option α} {Q : α → Prop} (e : ¬ c) (h : DE f Q) : DE (fun n => if c then g n else f n) Q := by simp only [if_neg e];exact h
theorem DE.step {α : Type} {g f : Nat → Option α} {Q : α → Prop} (e : ∀ k,g (k + 1) = f k) (h : DE f Q) : DE g Q := by
  obtain ⟨r,e',q⟩ := h
  exact ⟨r,Ev.step e e',q⟩
theorem DE.congr {α : Type} {g f : Nat → Option α} {Q : α → Prop} (e : ∀ k,g k = f k) (h : DE f Q) : DE g Q := by
  obtain ⟨r,e',q⟩ := h
  exact ⟨r,Ev.congr e e',q⟩
theorem DE.ev {α : Type} {g : Nat → Option α} {r : α} {Q : α → Prop} (e : Ev g r) (h : Q r) : DE g Q := ⟨r,e,h⟩
theorem l1Below_de (b : List Int) (i h n : Int) (c : Cur b i) : DE (fun _ => spec_l1Below.f b i h n) (fun r => Cur b r.2.1 ∧ 0 ≤ r.1 ∧ (0 < n → r.1 < n) ∧ (n ≤ 0 → r.1 = 0)) := by
  obtain ⟨x,i',h',e,⟨p,q,s⟩,c'⟩ := l1Below_eq b i h n c
  exact ⟨_,Ev.all fun _ => e,c',p,q,s⟩
theorem l1New_de (b : List Int) (hb : b.length ≤ 1048576) : DE (fun k => spec_l1New.f k b) (fun r => r.1 = b ∧ Cur b r.2.1) := by
  obtain ⟨h,e,c⟩ := l1New_ev b hb
  exact ⟨_,e,rfl,c⟩
theorem l1Once_de (b : List Int) (i h n : Int) (c : Cur b i) : DE (fun _ => spec_l1Once.f b i h n) (fun r => Cur b r.2.1) := by
  obtain ⟨x,i',h',e,c'⟩ := l1Once_eq b i h n c
  exact ⟨_,Ev.all fun _ => e,c'⟩
theorem l1PickInt_de (b : List Int) (i h : Int) (l : List Int) (hl : 0 < l.length) (c : Cur b i) : DE (fun _ => spec_l1PickInt.f b i h l) (fun r => Cur b r.2.1 ∧ r.1 ∈ l) := by
  obtain ⟨x,i',h',e,m,c'⟩ := l1PickInt_eq b i h l hl c
  exact ⟨_,Ev.all fun _ => e,c',m⟩
def Drawn (m : List (List S43)) (v : List Int) : Prop := Small m ∧ v.length ≤ 1048576 ∧ ∀ c ∈ m,c.length ≤ 31
theorem l6DrawRight_de (b : List Int) (i h : Int) (c : Cur b i) : DE (fun k => spec_l6DrawRight.f k b i h) (fun r => Cur b r.2.2.1 ∧ memOk r.1 = true ∧ viewOk r.1 r.2.1 = true ∧ ∀ c ∈ r.1,c.length ≤ 31) := by
  simp only [spec_l6DrawRight.f]
  refine DE.bind (DE.ev (Q := fun r => r = mem0) spec_MemoryNew_ev rfl) ?_
  rintro _ rfl
  refine DE.pos (by omega) ?_
  refine DE.bind (l1Below_de _ _ _ _ c) ?_
  rintro ⟨q,i1,h1⟩ ⟨c1,q0,q1,_⟩
  dsimp only at *
  have q1' := q1 (by omega)
  obtain ⟨N,rfl⟩ := Int.eq_ofNat_of_zero_le q0
  have viewLen : ∀ {m : List (List S43)} {u : List Int},memOk m = true → viewOk m u = true → u.length ≤ 1048576 := fun {m u} hm hu => by
    simp only [memOk,viewOk,Bool.and_eq_true,decide_eq_true_eq] at hm hu
    omega
  have key : ∀ d (j : Nat) i h (x y : List Int) (m : List (List S43)),j + d = N → memOk m = true → viewOk m x = true → viewOk m y = true → (∀ c ∈ m,c.length ≤ 1 + j) → Cur b i → DE (fun k => spec_l6DrawRight.l0 k x y (N : Int) (j : Int) b i h m) (fun r => Cur b r.2.2.1 ∧ memOk r.1 = true ∧ viewOk r.1 r.2.1 = true ∧ ∀ c ∈ r.1,c.length ≤ 31) := by
    intro d
    induction d with
    | zero =>
      intro j i h x y m hj hm hx hy hl c
      refine DE.step (fun k => by rw [spec_l6DrawRight.l0]) ?_
      refine DE.neg (by omega) ?_
      refine DE.bind (l1Once_de _ _ _ _ c) ?_
      rintro ⟨z,i2,h2⟩ c2
      dsimp only at *
      have hl' : ∀ c ∈ m,c.length ≤ 31 := fun c hc => by have := hl c hc;omega
      exact DE.ite (fun _ => DE.now ⟨c2,hm,hy,hl'⟩) (fun _ => DE.now ⟨c2,hm,hx,hl'⟩)
    | succ d ih =>
      intro j i h x y m hj hm hx hy hl c
      refine DE.step (fun k => by rw [spec_l6DrawRight.l0]) ?_
      refine DE.pos (by omega) ?_
      refine DE.bind (l1PickInt_de _ _ _ _ (by decide) c) ?_
      rintro ⟨cell,i2,h2⟩ ⟨c2,hcell⟩
      dsimp only at *
      have hc01 : 0 ≤ cell ∧ cell < 24 := by
        simp only [List.mem_cons,List.not_mem_nil,or_false] at hcell
        omega
      obtain ⟨ce0,ce1⟩ := hc01
      have hin : inn cell 0 23 = true := by simp only [inn,decide_eq_true_eq];omega
      have hrx : rightOf m x cell = true := by simp [rightOf,hm,hx,hin]
      have hry : rightOf m y cell = true := by simp [rightOf,hm,hy,hin]
      have hw : wrap64 ((j : Int) + 1) = ((j + 1 : Nat) : Int) := by rw [wrapS (n := 99) (by omega) (by omega)]
      have hgrow : ∀ c ∈ m,c.length ≤ 1 + (j + 1) := fun c hc => by have := hl c hc;omega
      refine DE.bind (l1Below_de _ _ _ _ c2) ?_
      rintro ⟨t,i3,h3⟩ ⟨c3,t0,t1,_⟩
      dsimp only at *
      rw [hw]
      refine DE.ite (fun _ => ?_) (fun _ => ?_)
      · refine DE.bind (l1Once_de _ _ _ _ c3) ?_
        rintro ⟨z,i4,h4⟩ c4
        dsimp only at *
        obtain ⟨s1,s2,s3,s4,s5⟩ := store_inv hm hx hy ce0 ce1 (n := 1 + j) (by omega) hl (j : Int) z
        refine DE.bind (DE.ev (Q := fun r => r = storeAll m x cell (j : Int) z) (spec_Store_ev m (small_ok hm) x (viewLen hm hx) cell (j : Int) z) rfl) ?_
        rintro _ rfl
        rw [show storeAll m x cell (j : Int) z = storeOf m x cell (j : Int) z from if_pos s1]
        exact ih (j + 1) _ _ _ _ _ (by omega) s2 s3 s4 (fun c hc => by have := s5 c hc;omega) c4
      · refine DE.ite (fun _ => ?_) (fun _ => ?_)
        · refine DE.bind (l1Once_de _ _ _ _ c3) ?_
          rintro ⟨z,i4,h4⟩ c4
          dsimp only at *
          obtain ⟨s1,s2,s3,s4,s5⟩ := store_inv hm hy hx ce0 ce1 (n := 1 + j) (by omega) hl (j : Int) z
          refine DE.bind (DE.ev (Q := fun r => r = storeAll m y cell (j : Int) z) (spec_Store_ev m (small_ok hm) y (viewLen hm hy) cell (j : Int) z) rfl) ?_
          rintro _ rfl
          rw [show storeAll m y cell (j : Int) z = storeOf m y cell (j : Int) z from if_pos s1]
          exact ih (j + 1) _ _ _ _ _ (by omega) s2 s4 s3 (fun c hc => by have := s5 c hc;omega) c4
        · refine DE.ite (fun _ => ?_) (fun _ => ?_)
          · refine DE.bind (l1Below_de _ _ _ _ c3) ?_
            rintro ⟨late,i4,h4⟩ ⟨c4,l0,l1,_⟩
            dsimp only at *
            have l1' := l1 (by omega)
            refine DE.bind (l1Once_de _ _ _ _ c4) ?_
            rintro ⟨z,i5,h5⟩ c5
            dsimp only at *
            refine DE.bind (DE.ev (Q := fun r => r = loadAll m x cell late z) (spec_Load_ev m (small_ok hm) x (viewLen hm hx) cell late z (by omega) (by omega)) rfl) ?_
            rintro _ rfl
            rw [show loadAll m x cell late z = loadOf m x cell late z from if_pos hrx]
            exact ih (j + 1) _ _ _ _ _ (by omega) hm (load_right hrx late z) hy hgrow c5
          · refine DE.ite (fun _ => ?_) (fun _ => ?_)
            · refine DE.bind (l1Below_de _ _ _ _ c3) ?_
              rintro ⟨late,i4,h4⟩ ⟨c4,l0,l1,_⟩
              dsimp only at *
              have l1' := l1 (by omega)
              refine DE.bind (l1Once_de _ _ _ _ c4) ?_
              rintro ⟨z,i5,h5⟩ c5
              dsimp only at *
              refine DE.bind (DE.ev (Q := fun r => r = loadAll m y cell late z) (spec_Load_ev m (small_ok hm) y (viewLen hm hy) cell late z (by omega) (by omega)) rfl) ?_
              rintro _ rfl
              rw [show loadAll m y cell late z = loadOf m y cell late z from if_pos hry]
              exact ih (j + 1) _ _ _ _ _ (by omega) hm hx (load_right hry late z) hgrow c5
            · have hnow := load_right hrx 0 true
              obtain ⟨s1,s2,s3,s4,s5⟩ := store_inv hm hnow hy ce0 ce1 (n := 1 + j) (by omega) hl (j : Int) true
              refine DE.bind (DE.ev (Q := fun r => r = swapAll m x cell (j : Int)) (spec_Swap_ev m (small_ok hm) x (viewLen hm hx) cell (j : Int)) rfl) ?_
              rintro _ rfl
              have hcan : canSt m x cell = true := by
                simp only [canSt,Bool.and_eq_true] at s1 ⊢
                exact ⟨hrx,s1.2⟩
              rw [show swapAll m x cell (j : Int) = swapOf m x cell (j : Int) from if_pos hcan]
              exact ih (j + 1) _ _ _ _ _ (by omega) s2 s3 s4 (fun c hc => by have := s5 c hc;omega) c3
  have hz : viewOk mem0 (List.replicate 24 0) = true := by decide +kernel
  exact key N 0 i1 h1 _ _ _ (by omega) (by decide +kernel) hz hz (fun c hc => by
    have := List.eq_of_mem_replicate (show c ∈ List.replicate 24 cell0 from hc)
    subst this
    decide) c1
theorem l6Draw_de (b : List Int) (i h : Int) (c : Cur b i) : DE (fun k => spec_l6Draw.f k b i h) (fun r => Cur b r.2.2.1 ∧ Drawn r.1 r.2.1) := by
  simp only [spec_l6Draw.f]
  refine DE.bind (l6DrawRight_de _ _ _ c) ?_
  rintro ⟨m,v,i1,h1⟩ ⟨c1,hm,hv,hl⟩
  dsimp only at *
  have hsm := small_ok hm
  have hm2 := hm
  have hv2 := hv
  simp only [memOk,Bool.and_eq_true,decide_eq_true_eq] at hm2
  simp only [viewOk,Bool.and_eq_true,decide_eq_true_eq] at hv2
  have lm := hm2.2
  have lv : v.length = 24 := by omega
  refine DE.bind (l1Below_de _ _ _ _ c1) ?_
  rintro ⟨t,i2,h2⟩ ⟨c2,t0,t1,_⟩
  dsimp only at *
  refine DE.ite (fun _ => ?_) (fun _ => ?_)
  · refine DE.bind (l1Below_de _ _ _ _ c2) ?_
    rintro ⟨q,i3,h3⟩ ⟨c3,q0,q1,_⟩
    dsimp only at *
    have q1' := q1 (by omega)
    refine DE.bind (l1PickInt_de _ _ _ _ (by decide) c3) ?_
    rintro ⟨z,i4,h4⟩ ⟨c4,_⟩
    dsimp only at *
    refine DE.pos q0 (DE.pos (by omega) (DE.now ⟨c4,hsm,?_,hl⟩))
    dsimp only
    rw [List.length_set];omega
  · refine DE.ite (fun _ => ?_) (fun _ => ?_)
    · refine DE.pos (by omega) (DE.now ⟨c2,hsm,?_,hl⟩)
      dsimp only
      rw [List.length_drop];omega
    · refine DE.ite (fun _ => ?_) (fun _ => ?_)
      · refine DE.bind (l1PickInt_de _ _ _ _ (by decide) c2) ?_
        rintro ⟨z,i4,h4⟩ ⟨c4,_⟩
        dsimp only at *
        have k1 : 1 ≤ (m.getD 1 []).length := (mem_cell hm (b := 1) (by omega) (by omega)).2.1
        have k2 : ((m.getD 1 []).getD 0 z43).f1.length = 24 := mem_view hm (cell := 1) (j := 0) (by omega) (by omega) (by omega) (by show (0 : Int) < ((m.getD 1 []).length : Int);omega)
        refine DE.pos (by omega) (DE.pos (by omega) (DE.pos (by omega) (DE.now ⟨c4,?_,by show v.length ≤ _;omega,?_⟩)))
        · have hg : m.getD 1 [] ∈ m := by
            rw [List.getD_eq_getElem?_getD,List.getElem?_eq_getElem (by omega)]
            exact List.getElem_mem _
          refine ⟨by show (deep12 m z).length ≤ _;unfold deep12;rw [List.length_set];omega,fun c hc => ?_⟩
          rcases List.mem_or_eq_of_mem_set (show c ∈ m.set 1 _ from hc) with e | e
          · exact hsm.2 c e
          · subst e
            have h5 := hsm.2 _ hg
            refine ⟨by rw [List.length_set];exact h5.1,fun w hw => ?_⟩
            rcases List.mem_or_eq_of_mem_set hw with e | e
            · exact h5.2 w e
            · subst e
              show (List.set _ 2 z).length ≤ _
              rw [List.length_set];omega
        · intro c hc
          rcases List.mem_or_eq_of_mem_set (show c ∈ m.set 1 _ from hc) with e | e
          · exact hl c e
          · subst e
            rw [List.length_set,List.getD_eq_getElem?_getD,List.getElem?_eq_getElem (by omega)]
            exact hl _ (List.getElem_mem _)
      · refine DE.ite (fun _ => ?_) (fun _ => ?_)
        · refine DE.pos (by omega) (DE.now ⟨c2,⟨?_,fun c hc => ?_⟩,by show v.length ≤ _;omega,fun c hc => hl c (List.mem_of_mem_drop hc)⟩)
          · show (m.drop 1).length ≤ _
            rw [List.length_drop];omega
          · exact hsm.2 c (List.mem_of_mem_drop hc)
        · refine DE.ite (fun _ => ?_) (fun _ => ?_)
          · refine DE.pos (by omega) (DE.now ⟨c2,⟨?_,fun c hc => ?_⟩,by show v.length ≤ _;omega,fun c hc => ?_⟩)
            · show (m.set 3 []).length ≤ _
              rw [List.length_set];omega
            · rcases List.mem_or_eq_of_mem_set (show c ∈ m.set 3 [] from hc) with e | e
              · exact hsm.2 c e
              · subst e
                exact ⟨by simp,by simp⟩
            · rcases List.mem_or_eq_of_mem_set (show c ∈ m.set 3 [] from hc) with e | e
              · exact hl c e
              · subst e
                simp
          · exact DE.now ⟨c2,hsm,by show v.length ≤ _;omega,hl⟩
theorem drawLoad_de (b : List Int) (hb : b.length ≤ 1048576) : DE (fun k => spec_DrawLoad.f k b) (fun r => Drawn r.1 r.2.1 ∧ -9223372036854775808 ≤ r.2.2.2.1 ∧ r.2.2.2.1 ≤ 9223372036854775807) := by
  simp only [spec_DrawLoad.f]
  refine DE.bind (l1New_de b hb) ?_
  rintro ⟨b',i,h⟩ ⟨rfl,c⟩
  dsimp only at *
  refine DE.bind (l6Draw_de _ _ _ c) ?_
  rintro ⟨m,v,i1,h1⟩ ⟨c1,hd⟩
  dsimp only at *
  refine DE.bind (P := fun r => Cur b' r.2.1) (by
    simp only [spec_l6DrawCell.f]
    refine DE.bind (l1PickInt_de _ _ _ _ (by decide) c1) ?_
    rintro ⟨z,i4,h4⟩ ⟨c4,_⟩
    exact DE.now c4) ?_
  rintro ⟨cell,i2,h2⟩ c2
  dsimp only at *
  refine DE.bind (l1PickInt_de _ _ _ _ (by decide) c2) ?_
  rintro ⟨late,i3,h3⟩ ⟨c3,hlate⟩
  dsimp only at *
  refine DE.bind (l1Once_de _ _ _ _ c3) ?_
  rintro ⟨hold,i4,h4⟩ c4
  dsimp only at *
  refine DE.now ⟨hd,?_⟩
  dsimp only
  simp only [List.mem_cons,List.not_mem_nil,or_false] at hlate
  omega
theorem FnLoad (x0 : (List Int)) (ok0 : (x0.length ≤ maxLen ∧ ∀ z ∈ x0,((Lit.int .u8 z).wf = true))) : ∃ k,laws_FnLoad.f k x0 = some true := by
  have hl := ok0.1
  unfold maxLen at hl
  refine Ev.rounds (g := fun k => laws_FnLoad.f k x0) ?_
  simp only [laws_FnLoad.f,laws_big.f,Option.bind_some,decide_eq_true_eq]
  by_cases hb : (x0.length : Int) > 1048576
  · exact Ev.ite_pos hb (Ev.now _)
  refine Ev.ite_neg hb ?_
  obtain ⟨⟨m,v,cell,late,hold⟩,e,⟨hm,hv,hl31⟩,lt0,lt1⟩ := drawLoad_de x0 (by omega)
  dsimp only at hm hv hl31 lt0 lt1
  refine Ev.bind e ?_
  dsimp only
  refine Ev.bind (impl_Load_ev m hm v hv cell late hold lt0 lt1) ?_
  refine Ev.bind (spec_Load_ev m hm v hv cell late hold lt0 lt1) ?_
  refine Ev.ite_pos rfl ?_
  have l2 : (loadAll m v cell late hold).2.length ≤ 1048576 := by
    unfold loadAll
    split
    · next h =>
      have := load_right h late hold
      obtain ⟨hm,hv,hi,c0,c1,c2,hl,cv,g1,g2,g3,g4⟩ := right_in h
      simp only [viewOk,Bool.and_eq_true,decide_eq_true_eq] at this
      omega
    · exact hv
  refine Ev.bind (sameInts_self _ (by omega)) ?_
  refine Ev.ite_pos rfl ?_
  refine Ev.bind (impl_MemoryOk_ev m hm) ?_
  refine Ev.bind (spec_MemoryOk_ev m hm) ?_
  refine Ev.ite_neg (by simp) ?_
  refine Ev.bind (impl_ViewOk_ev m v hm hv) ?_
  refine Ev.bind (spec_ViewOk_ev m v hm hv) ?_
  refine Ev.step (fun k => by rw [laws_FnLoad.j0]) ?_
  refine Ev.ite_neg (by simp) ?_
  refine Ev.bind (spec_MemoryOk_ev m hm) ?_
  have wrong : rightOf m v cell ≠ true → ∀ b,b = true → Ev (fun k => laws_FnLoad.j1 k v cell late (loadAll m v cell late hold).1 (loadAll m v cell late hold).2 b m) true := by
    rintro hr b rfl
    refine Ev.step (fun k => by rw [laws_FnLoad.j1]) ?_
    refine Ev.ite_pos rfl ?_
    rw [show loadAll m v cell late hold = (0,v) from if_neg hr]
    refine Ev.ite_pos rfl ?_
    refine Ev.bind (sameInts_self v (by omega)) ?_
    exact Ev.now _
  by_cases a1 : memOk m = true
  case neg => exact Ev.ite_neg a1 (wrong (fun c => a1 (right_in c).1) _ rfl)
  refine Ev.ite_pos a1 (Ev.bind (spec_ViewOk_ev m v hm hv) ?_)
  by_cases a2 : viewOk m v = true
  case neg => exact Ev.ite_neg a2 (wrong (fun c => a2 (right_in c).2.1) _ rfl)
  refine Ev.ite_pos a2 ?_
  by_cases a3 : cell < 0
  case pos => exact Ev.ite_pos a3 (wrong (fun c => by have := (right_in c).2.2.2.1;omega) _ rfl)
  refine Ev.ite_neg a3 ?_
  by_cases a4 : cell ≥ 24
  case pos => exact wrong (fun c => by obtain ⟨-,-,-,-,h1,-,h2,-⟩ := right_in c;omega) _ (by simpa using a4)
  have hin : inn cell 0 23 = true := by simp only [inn,decide_eq_true_eq];omega
  have hr : rightOf m v cell = true := by simp [rightOf,a1,a2,hin]
  have hd : decide (cell ≥ 24) = false := decide_eq_false a4
  rw [hd]
  obtain ⟨-,-,-,c0,c1,c2,lm,cv,g1,g2,g3,g4⟩ := right_in hr
  obtain ⟨w0,w1⟩ := which_in (late := late) hr
  rw [show loadAll m v cell late hold = loadOf m v cell late hold from if_pos hr]
  refine Ev.step (fun k => by rw [laws_FnLoad.j1]) ?_
  refine Ev.ite_neg (by simp) ?_
  rw [wrap_in (n := ((rd_L4 m cell).length : Int) - 1) (by omega) (by omega)]
  refine Ev.ite_pos c0 (Ev.ite_pos c1 (Ev.ite_pos (by omega) (Ev.ite_pos (by omega) (Ev.ite_pos c2 ?_))))
  have hw : rd v cell ≤ whichOf m v cell late := by unfold whichOf mx;split <;> split <;> omega
  have hlast : late > 0 ∨ (loadOf m v cell late hold).1 = (rd_T43 (rd_L4 m cell) (((rd_L4 m cell).length : Int) - 1)).f0 := by
    by_cases hlt : late > 0
    · exact .inl hlt
    · refine .inr ?_
      have : whichOf m v cell late = ((rd_L4 m cell).length : Int) - 1 := by unfold whichOf mx;split <;> split <;> omega
      simp only [loadOf,this]
  obtain ⟨L,hL⟩ : ∃ L : Nat,L = (rd_L4 m cell).length := ⟨_,rfl⟩
  have hnow := load_right hr late hold
  have hkn := load_knows hr late hold
  have lnow : (loadOf m v cell late hold).2.length = 24 := by
    simp only [viewOk,Bool.and_eq_true,decide_eq_true_eq] at hnow
    omega
  have key : ∀ d (j : Nat) (there : Bool),j + d = L → (there = true ∨ (j : Int) ≤ whichOf m v cell late) → Ev (fun k => laws_FnLoad.l0 k v cell late (loadOf m v cell late hold).1 (loadOf m v cell late hold).2 ((rd_T43 (rd_L4 m cell) (((rd_L4 m cell).length : Int) - 1)).f0) there (j : Int) m) true := by
    intro d
    induction d with
    | zero =>
      intro j there hj ht
      refine Ev.step (fun k => by rw [laws_FnLoad.l0]) ?_
      refine Ev.ite_pos c0 (Ev.ite_pos c1 (Ev.ite_neg (by omega) ?_))
      have ht' : there = true := ht.elim id (fun h => by omega)
      refine Ev.ite_pos ht' ?_
      refine Ev.bind (impl_Knows_ev _ _ (by omega)) ?_
      refine Ev.ite_pos hkn ?_
      refine Ev.bind (impl_ViewOk_ev m _ hm (by omega)) ?_
      refine Ev.ite_pos hnow ?_
      by_cases hlt : late > 0
      · exact Ev.ite_pos hlt (Ev.now _)
      · refine Ev.ite_neg hlt ?_
        exact Ev.val (by rw [hlast.resolve_left hlt];simp) (Ev.now _)
    | succ d ih =>
      intro j there hj ht
      have hw1 : wrap64 ((j : Int) + 1) = ((j + 1 : Nat) : Int) := by rw [wrapS (n := 4000) (by omega) (by omega)]
      refine Ev.step (fun k => by rw [laws_FnLoad.l0]) ?_
      rw [hw1]
      refine Ev.ite_pos c0 (Ev.ite_pos c1 (Ev.ite_pos (by omega) ?_))
      by_cases ht' : there = true
      · exact Ev.ite_pos ht' (ih (j + 1) true (by omega) (.inl rfl))
      · refine Ev.ite_neg ht' (Ev.ite_pos (Int.natCast_nonneg j) ?_)
        have hjw := ht.resolve_left ht'
        clear ht ht'
        refine ih (j + 1) _ (by omega) ?_
        by_cases ej : (j : Int) = whichOf m v cell late
        · exact .inl (by rw [ej];simp [loadOf])
        · exact .inr (Int.lt_iff_le_and_ne.2 ⟨hjw,ej⟩)
  obtain ⟨j,hj⟩ := Int.eq_ofNat_of_zero_le g3
  rw [hj]
  exact key (L - j) j false (by omega) (.inr (by omega))
end Go.Proofs.Ythbcnakmnbilhaa.Pure
namespace Go.Proofs.Ythbcnakmnbilhaa.Rd
open Go.RowKit Go.Proofs.YthbcnakmnbilhaaW.PrintWords Go.ChangeShapes Go.WideShapes
set_option linter.unusedVariables false
def Opens {α : Type} (P : Program) (t : TypeId) (d : Kd α) (ok : α → Prop) : Prop :=
  ∀ (H : Type) (enc : TypeId × Value → H) (w : World) (base : Nat) (spare : Nat → Bool) (held : Bool) (fuel : Nat) (cs : List Value) (x : DataW H × List MemPlace),
    DataW.trod enc P w base spare held fuel t cs = some x → ∃ y,d.K w y cs ∧ ok y
theorem Opens.int {P : Program} {t : TypeId} {k : IntKind} (ht : P.underlying t = some (.int k)) : Opens P t (Kd.int k) (fun n => (Lit.int k n).wf = true) := by
  intro H enc w base spare held fuel cs x h
  obtain ⟨n,rfl,_,hw⟩ := DataW.trod_int ht h
  exact ⟨n,rfl,hw⟩
theorem Opens.bool {P : Program} {t : TypeId} (ht : P.underlying t = some .bool) : Opens P t Kd.bool (fun _ => True) := by
  intro H enc w base spare held fuel cs x h
  obtain ⟨n,rfl,_⟩ := DataW.trod_bool ht h
  exact ⟨n,rfl,trivial⟩
theorem list_of {α : Type} {Q : Nat → α → Prop} : ∀ n : Nat,(∀ i,i < n → ∃ y,Q i y) → ∃ ys : List α,ys.length = n ∧ ∀ i y,ys[i]? = some y → Q i y := by
  intro n
  induction n with
  | zero => exact fun _ => ⟨[],rfl,fun i y h => by simp at h⟩
  | succ n ih =>
    intro h
    obtain ⟨ys,hl,hq⟩ := ih (fun i hi => h i (by omega))
    obtain ⟨y,hy⟩ := h n (by omega)
    refine ⟨ys ++ [y],by simp [hl],fun i z hz => ?_⟩
    rcases Nat.lt_or_ge i ys.length with hi | hi
    · rw [List.getElem?_append_left hi] at hz
      exact hq i z hz
    · rw [List.getElem?_append_right hi] at hz
      have h0 : i - ys.length = 0 := by
        have := (List.getElem?_eq_some_iff.1 hz).1
        simp at this
        omega
      rw [h0] at hz
      simp at hz
      subst hz
      have : i = n := by omega
      rw [this]
      exact hy
theorem Opens.slice {α : Type} {P : Program} {t e : TypeId} (q : Nat) {d : Kd α} {ok : α → Prop} (ht : P.underlying t = some (.slice e)) (hs : P.cellsOf e = d.sz) (he : Opens P e d ok) :
    Opens P t (Kd.slice q d) (fun xs => xs.length ≤ maxLen ∧ ∀ x ∈ xs,ok x) := by
  intro H enc w base spare held fuel cs x h
  rcases DataW.trod_slice ht h with ⟨rfl,_⟩ | ⟨a,len,cap,elems,rest,n,_,rfl,_,_,hl,hm,hlen,hel,_,_⟩
  · exact ⟨[],⟨none,0,rfl,Nat.le_refl _,rfl,by simp,fun hp => absurd hp (by simp)⟩,by simp,by simp⟩
  · have each : ∀ i,i < len → ∃ y,∃ c,w.cells? base (a.add (i * d.sz)) d.sz = some c ∧ d.K w y c ∧ ok y := by
      intro i hi
      have h1 := hel i hi
      rw [List.getElem?_eq_getElem (by omega),Option.bind_eq_some_iff,hs] at h1
      obtain ⟨c,hc,hx⟩ := h1
      obtain ⟨y,hy,ho⟩ := he H enc w base spare held n c _ hx
      exact ⟨y,c,hc,hy,ho⟩
    obtain ⟨ys,hyl,hq⟩ := list_of len each
    have hm' : len ≤ 9223372036854775807 := by unfold maxLen at hm;omega
    refine ⟨ys,⟨some a,cap,by rw [hyl],by omega,rfl,by omega,fun _ => ⟨a,rfl,fun j p hj => ?_⟩⟩,by omega,fun y hy => ?_⟩
    · obtain ⟨c,hc,hk,_⟩ := hq j p hj
      obtain ⟨_,hcl,hcell⟩ := World.cells?_some hc
      refine ⟨c,hcl,hk,fun i u hu => ?_⟩
      have hi : i < d.sz := by
        have := (List.getElem?_eq_some_iff.1 hu).1
        omega
      rw [← Addr.add_add,hcell i hi,hu]
    · obtain ⟨i,hi⟩ := List.getElem?_of_mem hy
      obtain ⟨c,_,_,ho⟩ := hq i y hi
      exact ho
def OpensAt {α : Type} (P : Program) (fs : List Field) (off : Nat) (d : Kd α) (ok : α → Prop) : Prop :=
  ∀ (H : Type) (enc : TypeId × Value → H) (w : World) (base : Nat) (spare : Nat → Bool) (held : Bool) (n : Nat) (cs : List Value),cs.length = off + d.sz →
    (∀ f ∈ fs,∃ y,DataW.trod enc P w base spare held n f.type ((cs.drop f.offset).take (P.cellsOf f.type)) = some y) → ∃ y,d.K w y (cs.drop off) ∧ ok y
theorem OpensAt.one {α : Type} {P : Program} {f : Field} {off : Nat} {d : Kd α} {ok : α → Prop} (ho : f.offset = off) (hs : P.cellsOf f.type = d.sz) (h : Opens P f.type d ok) : OpensAt P [f] off d ok := by
  intro H enc w base spare held n cs hl hf
  obtain ⟨x,hx⟩ := hf f (by simp)
  rw [ho,hs,List.take_of_length_le (by simp;omega)] at hx
  exact h _ _ _ _ _ _ _ _ _ hx
theorem OpensAt.cons {α β : Type} {P : Program} {f : Field} {fs : List Field} {off : Nat} {a : Kd α} {b : Kd β} {oka : α → Prop} {okb : β → Prop} (ho : f.offset = off) (hs : P.cellsOf f.type = a.sz) (h : Opens P f.type a oka)
    (hr : OpensAt P fs (off + a.sz) b okb) : OpensAt P (f :: fs) off (Kd.pair a b) (fun x => oka x.1 ∧ okb x.2) := by
  intro H enc w base spare held n cs hl hf
  obtain ⟨x,hx⟩ := hf f (by simp)
  rw [ho,hs] at hx
  obtain ⟨y,hy,oy⟩ := h _ _ _ _ _ _ _ _ _ hx
  have hl' : cs.length = (off + a.sz) + b.sz := by rw [hl];show off + (a.sz + b.sz) = _;omega
  obtain ⟨z,hz,oz⟩ := hr H enc w base spare held n cs hl' (fun g hg => hf g (by simp [hg]))
  refine ⟨(y,z),⟨_,_,?_,hy,hz⟩,oy,oz⟩
  rw [← List.drop_drop]
  exact (List.take_append_drop _ _).symm
theorem Opens.struct {α : Type} {P : Program} {t : TypeId} {fs : List Field} {d : Kd α} {ok : α → Prop} (ht : P.underlying t = some (.struct (List.toArray fs))) (hs : P.cellsOf t = d.sz) (h : OpensAt P fs 0 d ok) : Opens P t d ok := by
  intro H enc w base spare held fuel cs x hx
  obtain ⟨xs,n,_,_,hl,hlen,hf⟩ := DataW.trod_struct ht hx
  obtain ⟨y,hy,oy⟩ := h H enc w base spare held n cs (by omega) (fun f hm => by
    obtain ⟨i,hi⟩ := List.getElem?_of_mem hm
    have hi' : (List.toArray fs)[i]? = some f := by simpa using hi
    have h1 := hf i f hi'
    have hlt : i < xs.length := by
      have := (Array.getElem?_eq_some_iff.1 hi').1
      omega
    rw [List.getElem?_eq_getElem hlt] at h1
    exact ⟨_,h1⟩)
  exact ⟨y,by simpa using hy,oy⟩
theorem Opens.iso {α β : Type} {P : Program} {t : TypeId} {d : Kd α} {ok : α → Prop} (f : β → α) (g : α → β) (hg : ∀ x,f (g x) = x) (h : Opens P t d ok) : Opens P t (Kd.iso d f) (fun y => ok (f y)) := by
  intro H enc w base spare held fuel cs x hx
  obtain ⟨y,hy,o⟩ := h H enc w base spare held fuel cs x hx
  refine ⟨g y,?_,?_⟩
  · show d.K w (f (g y)) cs
    rw [hg]
    exact hy
  · show ok (f (g y))
    rw [hg]
    exact o
theorem Opens.at_slice {α : Type} {P : Program} {t : TypeId} {q : Nat} {d : Kd α} {ok : List α → Prop} (h : Opens P t (Kd.slice q d) ok) {H : Type} {enc : TypeId × Value → H} {w : World} {base : Nat} {spare : Nat → Bool} {held : Bool} {v : Value} {x : DataW H} {ps : List MemPlace}
    {e : TypeId} {r : Reach} {b0 : Nat} (hu : P.underlying t = some (.slice e)) (hv : Value.okWide P w r b0 t v) (hx : DataW.Trod enc P w base spare held t v x ps) : ∃ xs A c,v = .slice A xs.length c ∧ xs.length ≤ c ∧ d.C w A xs.length xs ∧ ok xs := by
  obtain ⟨a,len,cap,rfl⟩ := okWide_slice hu hv
  obtain ⟨fuel,hf⟩ := hx
  obtain ⟨xs,⟨A,c,hcs,hl,hC⟩,o⟩ := h _ _ _ _ _ _ _ _ _ hf
  refine ⟨xs,A,c,?_,hl,hC,o⟩
  simpa [Value.cells] using hcs
end Go.Proofs.Ythbcnakmnbilhaa.Rd
