/- A part of the proof that the law FnExactSwap holds for every input: the words, functions and walks that its row needs, without a condition of their own. -/
import Derived.ProofKit
import Derived.DataElems
import Derived.ChangeArms
import Derived.SizedLaws
import Derived.Test.YthbcnakmnbilhaaZFnExactSwapa0
import Derived.Test.YthbcnakmnbilhaaZFnExactSwapa14
namespace Go.Proofs.Ythbcnakmnbilhaa.Lp
open Go.RowKit Go.Proofs.YthbcnakmnbilhaaW.PrintWords
set_option linter.unusedVariables false
set_option linter.unusedSimpArgs false
theorem wrapS {j n : Nat} (h : j < n) (hn : n ≤ 9223372036854775807) : wrap64 ((j : Int) + 1) = ((j + 1 : Nat) : Int) := by
  unfold wrap64; omega
theorem wrap_in {n : Int} (h0 : -9223372036854775808 ≤ n) (h1 : n ≤ 9223372036854775807) : wrap64 n = n := by
  unfold wrap64; omega
theorem rd_get {xs : List Int} {j : Nat} (h : j < xs.length) : rd xs (j : Int) = xs[j] := by simp [rd, List.getD_eq_getElem?_getD, h]
theorem count_up {ρ : Type} {L : Nat → Nat → Option ρ} {R : Nat → ρ} {n : Nat} (hend : Ev (L n) (R n)) (hstep : ∀ j, j < n → Ev (L (j + 1)) (R (j + 1)) → Ev (L j) (R j)) : ∀ j, j ≤ n → Ev (L j) (R j) := by
  have key : ∀ d j, j + d = n → Ev (L j) (R j) := by
    intro d
    induction d with
    | zero => intro j hj; obtain rfl : j = n := by omega
              exact hend
    | succ d ih => intro j hj; exact hstep j (by omega) (ih (j + 1) (by omega))
  exact fun j hj => key (n - j) j (by omega)
theorem Ev.one {α : Type} {g : Nat → Option α} {r : α} (h : ∀ k, g (k + 1) = some r) : Ev g r := ⟨1, fun k hk => by
  obtain ⟨m, rfl⟩ : ∃ m, k = m + 1 := ⟨k - 1, by omega⟩
  exact h m⟩
theorem Ev.all {α : Type} {g : Nat → Option α} {r : α} (h : ∀ k, g k = some r) : Ev g r := ⟨0, fun k _ => h k⟩
theorem fill_set {α : Type} (l : List α) (z : α) (j : Nat) (h : j < l.length) (x : α) (hx : x = l[j]) : (l.take j ++ List.replicate (l.length - j) z).set j x = l.take (j + 1) ++ List.replicate (l.length - (j + 1)) z := by
  subst hx
  rw [show l.length - j = (l.length - (j + 1)) + 1 by omega, List.replicate_succ, List.set_append_right _ _ (by simp; omega), List.length_take, show j - min j l.length = 0 by omega, List.set_cons_zero, List.take_succ_eq_append_getElem h, List.append_assoc]
  rfl
def agree {α : Type} [DecidableEq α] (a b : List α) (j : Nat) : Bool := decide (a.drop j = b.drop j)
theorem agree_step {α : Type} [DecidableEq α] {a b : List α} {j : Nat} (ha : j < a.length) (hb : j < b.length) (h : a[j] = b[j]) : agree a b j = agree a b (j + 1) := by
  unfold agree
  have e1 := List.drop_eq_getElem_cons ha
  have e2 := List.drop_eq_getElem_cons hb
  rw [decide_eq_decide, e1, e2, h, List.cons.injEq]
  exact ⟨fun c => c.2, fun c => ⟨rfl, c⟩⟩
theorem agree_no {α : Type} [DecidableEq α] {a b : List α} {j : Nat} (ha : j < a.length) (hb : j < b.length) (h : ¬ a[j] = b[j]) : agree a b j = false := by
  unfold agree
  have e1 := List.drop_eq_getElem_cons ha
  have e2 := List.drop_eq_getElem_cons hb
  rw [decide_eq_false_iff_not, e1, e2]
  intro c
  injection c with c1
  exact h c1
theorem agree_end {α : Type} [DecidableEq α] {a b : List α} (h : a.length = b.length) : agree a b a.length = true := by
  unfold agree
  simp [h]
def allFrom {α : Type} (p : α → Bool) (xs : List α) (j : Nat) : Bool := (xs.drop j).all p
theorem allFrom_step {α : Type} {p : α → Bool} {xs : List α} {j : Nat} (h : j < xs.length) : allFrom p xs j = (p xs[j] && allFrom p xs (j + 1)) := by
  unfold allFrom
  rw [List.drop_eq_getElem_cons h, List.all_cons]
theorem allFrom_end {α : Type} {p : α → Bool} (xs : List α) : allFrom p xs xs.length = true := by simp [allFrom]
theorem allFrom_zero {α : Type} (p : α → Bool) (xs : List α) : allFrom p xs 0 = xs.all p := rfl
def total {α : Type} (w : α → Nat) : List α → Nat
  | [] => 0
  | x :: xs => w x + total w xs
theorem total_drop {α : Type} (w : α → Nat) {xs : List α} {j : Nat} (h : j < xs.length) : total w (xs.drop j) = w xs[j] + total w (xs.drop (j + 1)) := by
  rw [List.drop_eq_getElem_cons h, total]
theorem total_mem {α : Type} (w : α → Nat) : ∀ {xs : List α} {x : α}, x ∈ xs → w x ≤ total w xs
  | y :: xs, x, h => by
    rcases List.mem_cons.1 h with rfl | h
    · rw [total]; omega
    · have := total_mem w h
      rw [total]; omega
def left? (t : Nat) (a : Int) : Int := if (t : Int) ≤ a then a - (t : Int) else -1
theorem sz_loop {α : Type} {L : Nat → Int → Nat → Option Int} (xs : List α) (w : α → Nat) (B : Int) (hend : ∀ a, Ev (L xs.length a) a)
    (hyes : ∀ j (h : j < xs.length) a, a ≤ B → (w xs[j] : Int) ≤ a → ∀ r, Ev (L (j + 1) (a - (w xs[j] : Int))) r → Ev (L j a) r)
    (hno : ∀ j (h : j < xs.length) a, 0 ≤ a → a ≤ B → a < (w xs[j] : Int) → Ev (L j a) (-1)) : ∀ a, 0 ≤ a → a ≤ B → Ev (L 0 a) (left? (total w xs) a) := by
  have key : ∀ d j, j + d = xs.length → ∀ a, 0 ≤ a → a ≤ B → Ev (L j a) (left? (total w (xs.drop j)) a) := by
    intro d
    induction d with
    | zero =>
      intro j hj a h0 hB
      obtain rfl : j = xs.length := by omega
      rw [List.drop_length, total, left?, if_pos (by omega), show a - ((0 : Nat) : Int) = a by omega]
      exact hend a
    | succ d ih =>
      intro j hj a h0 hB
      have h : j < xs.length := by omega
      rw [total_drop w h]
      by_cases hw : (w xs[j] : Int) ≤ a
      · refine hyes j h a hB hw _ ?_
        have := ih (j + 1) (by omega) (a - (w xs[j] : Int)) (by omega) (by omega)
        unfold left? at this ⊢
        by_cases c : (total w (xs.drop (j + 1)) : Int) ≤ a - (w xs[j] : Int)
        · rw [if_pos c] at this
          rw [if_pos (by omega), show a - ((w xs[j] + total w (xs.drop (j + 1)) : Nat) : Int) = a - (w xs[j] : Int) - (total w (xs.drop (j + 1)) : Int) by omega]
          exact this
        · rw [if_neg c] at this
          rw [if_neg (by omega)]
          exact this
      · rw [left?, if_neg (by omega)]
        exact hno j h a h0 hB (by omega)
  exact fun a h0 hB => by simpa using key xs.length 0 (by omega) a h0 hB
theorem left?_yes {t : Nat} {a : Int} (h : (t : Int) ≤ a) : left? t a = a - (t : Int) := if_pos h
theorem left?_no {t : Nat} {a : Int} (h : ¬ (t : Int) ≤ a) : left? t a = -1 := if_neg h
theorem left?_add {m t : Nat} {a : Int} (h : (m : Int) ≤ a) : left? t (a - (m : Int)) = left? (m + t) a := by
  unfold left?
  by_cases c : (t : Int) ≤ a - (m : Int)
  · rw [if_pos c, if_pos (by omega)]; omega
  · rw [if_neg c, if_neg (by omega)]
theorem Ev.val {α : Type} {g : Nat → Option α} {r r' : α} (h : r = r') (k : Ev g r) : Ev g r' := h ▸ k
theorem Ev.ite_pos {α : Type} {c : Prop} [Decidable c] {g f : Nat → Option α} {r : α} (h : c) (k : Ev g r) : Ev (fun n => if c then g n else f n) r := by simp only [if_pos h]; exact k
theorem Ev.ite_neg {α : Type} {c : Prop} [Decidable c] {g f : Nat → Option α} {r : α} (h : ¬ c) (k : Ev f r) : Ev (fun n => if c then g n else f n) r := by simp only [if_neg h]; exact k
theorem total_map {α β : Type} (w : α → Nat) (w' : β → Nat) (c : α → β) (h : ∀ x, w' (c x) = w x) : ∀ xs : List α, total w' (xs.map c) = total w xs
  | [] => rfl
  | x :: xs => by rw [List.map_cons, total, total, h, total_map w w' c h xs]
theorem to_loop {α β : Type} {L : Nat → List β → Nat → Option (List β)} (xs : List α) (c : α → β) (z : β) (hend : ∀ ys, ys.length = xs.length → Ev (L xs.length ys) ys)
    (hstep : ∀ j (h : j < xs.length) ys, ys.length = xs.length → ∀ r, Ev (L (j + 1) (ys.set j (c xs[j]))) r → Ev (L j ys) r) : Ev (L 0 (List.replicate xs.length z)) (xs.map c) := by
  have key : ∀ d j, j + d = xs.length → Ev (L j ((xs.map c).take j ++ List.replicate (xs.length - j) z)) (xs.map c) := by
    intro d
    induction d with
    | zero =>
      intro j hj
      obtain rfl : j = xs.length := by omega
      have := hend (xs.map c) (by simp)
      rw [Nat.sub_self, List.replicate_zero, List.append_nil, List.take_of_length_le (by simp)]
      exact this
    | succ d ih =>
      intro j hj
      have h : j < xs.length := by omega
      refine hstep j h _ (by simp; omega) _ ?_
      have h2 := fill_set (xs.map c) z j (by simpa using h) (c xs[j]) (by simp)
      rw [List.length_map] at h2
      rw [h2]
      exact ih (j + 1) (by omega)
  simpa using key xs.length 0 (by omega)
theorem yes_loop {ρ : Type} {L : Nat → Nat → Option ρ} (n : Nat) (r : ρ) (hend : Ev (L n) r) (hstep : ∀ j, j < n → Ev (L (j + 1)) r → Ev (L j) r) : Ev (L 0) r :=
  count_up (R := fun _ => r) hend hstep 0 (Nat.zero_le _)
theorem all_loop {α : Type} {L : Nat → Nat → Option Bool} (xs : List α) (p : α → Bool) {b : Bool} (hend : Ev (L xs.length) b) (hyes : ∀ j (h : j < xs.length), p xs[j] = true → ∀ r, Ev (L (j + 1)) r → Ev (L j) r) (hno : ∀ j (h : j < xs.length), p xs[j] = false → Ev (L j) false) : Ev (L 0) (xs.all p && b) := by
  have key : ∀ d j, j + d = xs.length → Ev (L j) (allFrom p xs j && b) := by
    intro d
    induction d with
    | zero =>
      intro j hj
      obtain rfl : j = xs.length := by omega
      rw [allFrom_end, Bool.true_and]
      exact hend
    | succ d ih =>
      intro j hj
      have h : j < xs.length := by omega
      rw [allFrom_step h]
      cases e : p xs[j] with
      | true => rw [Bool.true_and]; exact hyes j h e _ (ih (j + 1) (by omega))
      | false => rw [Bool.false_and, Bool.false_and]; exact hno j h e
  have := key xs.length 0 (by omega)
  rwa [allFrom_zero] at this
theorem yes_all {α ρ : Type} {L : Nat → Nat → Option ρ} {r : ρ} (xs : List α) (p : α → Bool) (h : xs.all p = true) (hend : Ev (L xs.length) r) (hyes : ∀ j (h : j < xs.length), p xs[j] = true → Ev (L (j + 1)) r → Ev (L j) r) : Ev (L 0) r :=
  yes_loop xs.length r hend (fun j hj ih => hyes j hj (List.all_eq_true.1 h _ (List.getElem_mem hj)) ih)
theorem no_all {α ρ : Type} {L : Nat → Nat → Option ρ} {r : ρ} (xs : List α) (p : α → Bool) (h : xs.all p = false) (hyes : ∀ j (h : j < xs.length), p xs[j] = true → Ev (L (j + 1)) r → Ev (L j) r) (hno : ∀ j (h : j < xs.length), p xs[j] = false → Ev (L j) r) : Ev (L 0) r := by
  have key : ∀ d j, j + d = xs.length → allFrom p xs j = false → Ev (L j) r := by
    intro d
    induction d with
    | zero =>
      intro j hj hf
      obtain rfl : j = xs.length := by omega
      rw [allFrom_end] at hf
      cases hf
    | succ d ih =>
      intro j hj hf
      have hlt : j < xs.length := by omega
      rw [allFrom_step hlt] at hf
      cases e : p xs[j] with
      | true => rw [e, Bool.true_and] at hf; exact hyes j hlt e (ih (j + 1) (by omega) hf)
      | false => exact hno j hlt e
  exact key xs.length 0 (by omega) (by rw [allFrom_zero]; exact h)
end Go.Proofs.Ythbcnakmnbilhaa.Lp
namespace Go.Proofs.Ythbcnakmnbilhaa.Pure
open Go.RowKit Go.Proofs.Ythbcnakmnbilhaa Go.Proofs.Ythbcnakmnbilhaa.PFnExactSwap Go.Proofs.YthbcnakmnbilhaaW.PrintWords Go.Proofs.YthbcnakmnbilhaaW.PrintLast Go.Proofs.Ythbcnakmnbilhaa.Lp
set_option linter.unusedVariables false
set_option linter.unusedSimpArgs false
theorem toIntS_ev (l : List Int) (h : l.length ≤ 35184372088832) : Ev (fun k => laws_toIntS.f k l) l := by
  have key := count_up (L := fun j k => laws_toIntS.l0 k l (l.take j ++ List.replicate (l.length - j) 0) (j : Int)) (R := fun _ => l) (n := l.length)
    (Ev.one fun k => by simp [laws_toIntS.l0])
    (fun j hj ih => Ev.step (fun k => by
      simp only [laws_toIntS.l0]
      rw [if_pos (by omega), if_pos (by omega), if_pos (by simp; omega), wrapS hj (by omega), Int.toNat_natCast, fill_set l 0 j hj _ (rd_get hj)]) ih)
  refine Ev.congr (fun k => ?_) (key 0 (Nat.zero_le _))
  unfold laws_toIntS.f
  rw [if_pos (by omega), if_pos (by simpa using h)]
  simp
theorem eqIntS_ev (a b : List Int) (h : a.length ≤ 9223372036854775807) : Ev (fun k => laws_eqIntS.f k a b) (decide (a = b)) := by
  by_cases hl : a.length = b.length
  · have key := count_up (L := fun j k => laws_eqIntS.l0 k a b (j : Int)) (R := fun j => agree a b j) (n := a.length)
      (Ev.one fun k => by simp [laws_eqIntS.l0, agree_end hl])
      (fun j hj ih => by
        by_cases e : a[j] = b[j]
        · exact Ev.step (fun k => by
            simp only [laws_eqIntS.l0]
            rw [if_pos (by omega), if_pos (by omega), if_pos (by omega), if_pos (by rw [rd_get hj, rd_get (by omega), e]), wrapS hj (by omega)]) (by rw [agree_step hj (by omega) e]; exact ih)
        · exact Ev.one fun k => by
            simp only [laws_eqIntS.l0]
            rw [if_pos (by omega), if_pos (by omega), if_pos (by omega), if_neg (by rw [rd_get hj, rd_get (by omega)]; exact e), agree_no hj (by omega) e])
    refine Ev.congr (fun k => ?_) (key 0 (Nat.zero_le _))
    unfold laws_eqIntS.f
    rw [if_pos (by omega)]
    rfl
  · refine Ev.all fun k => ?_
    unfold laws_eqIntS.f
    rw [if_neg (by omega), decide_eq_false (fun e => hl (by rw [e]))]
theorem eqIntS_self (a : List Int) (h : a.length ≤ 9223372036854775807) : Ev (fun k => laws_eqIntS.f k a a) true := by
  have := eqIntS_ev a a h
  simpa using this
def wlWrite (x : S139) : Nat := x.f1.length
def wiWrite (x : S43) : Nat := x.f1.length
def cvWrite (x : S139) : S43 := ⟨x.f0, x.f1⟩
theorem w_cvWrite (x : S139) : wiWrite (cvWrite x) = wlWrite x := rfl
def cvWriteS (xs : (List S139)) : (List S43) := xs.map cvWrite
def wlWriteS (xs : (List S139)) : Nat := (xs.length + total wlWrite xs)
def wiWriteS (xs : (List S43)) : Nat := (xs.length + total wiWrite xs)
theorem w_cvWriteS (xs : (List S139)) : wiWriteS (cvWriteS xs) = wlWriteS xs := by
  simp only [wiWriteS, wlWriteS, cvWriteS, List.length_map]
  rw [total_map wlWrite wiWrite cvWrite w_cvWrite]
theorem szIntS_ev (l : (List Int)) (a : Int) (h0 : 0 ≤ a) (hB : a ≤ 1048576) (hl : l.length ≤ 9223372036854775807) : Ev (fun k => laws_szIntS.f l a) (left? l.length a) := by
  refine Ev.all fun k => ?_
  unfold laws_szIntS.f left?
  rw [wrap_in (by omega) (by omega)]
  by_cases h : (l.length : Int) ≤ a
  · rw [if_neg (by omega), if_pos h]
  · rw [if_pos (by omega), if_neg h]
theorem szWrite_ev (a_0 : Int) (a_1 : (List Int)) (a : Int) (h0 : 0 ≤ a) (hB : a ≤ 1048576) (hfin : a_1.length ≤ 9223372036854775807) : Ev (fun k => laws_szWrite.f a_0 a_1 a) (left? (a_1.length) a) := by
  simp only [laws_szWrite.f]
  refine Ev.bind (szIntS_ev a_1 a (by omega) (by omega) hfin) ?_
  by_cases c0 : ((a_1.length : Nat) : Int) ≤ a
  case neg => rw [left?_no c0]; (try rw [left?_no (by omega)]); exact Ev.ite_pos (by omega) (Ev.now _)
  rw [left?_yes c0]
  refine Ev.ite_neg (by omega) ?_
  (try rw [left?_yes (by omega)])
  exact Ev.val (by omega) (Ev.now _)
theorem szWriteS_ev (xs : (List S139)) (a : Int) (h0 : 0 ≤ a) (hB : a ≤ 1048576) (hfin : (xs.length ≤ 9223372036854775807 ∧ ∀ y ∈ xs, y.f1.length ≤ 9223372036854775807)) : Ev (fun k => laws_szWriteS.f k xs a) (left? (xs.length + total wlWrite xs) a) := by
  obtain ⟨hl, hfin⟩ := hfin
  have rd_e : ∀ (j : Nat) (hj : j < xs.length), rd_T139 xs (j : Int) = xs[j] := fun j hj => by simp [rd_T139, List.getD_eq_getElem?_getD, hj]
  by_cases h : (xs.length : Int) ≤ a
  · have key := sz_loop (L := fun j a k => laws_szWriteS.l0 k xs a (j : Int)) xs wlWrite 1048576 (fun a => Ev.one fun k => by simp only [laws_szWriteS.l0]; rw [if_neg (by omega)])
      (fun j hj a hB hw r ih => by
        have h0 : 0 ≤ a := by omega
        have hw' : ((xs[j].f1.length : Nat) : Int) ≤ a := hw
        refine Ev.step (fun k => by simp only [laws_szWriteS.l0]; rw [if_pos (by omega), if_pos (by omega), rd_e j hj]) (Ev.bind (szWrite_ev (xs[j].f0) (xs[j].f1) a h0 hB (hfin xs[j] (List.getElem_mem hj))) ?_)
        rw [left?_yes hw', wrapS hj hl]
        exact Ev.ite_neg (by omega) ih)
      (fun j hj a h0 hB hw => by
        have hw' : ¬ ((xs[j].f1.length : Nat) : Int) ≤ a := by have : a < (wlWrite xs[j] : Int) := hw; intro c; exact absurd (show (wlWrite xs[j] : Int) ≤ a from c) (by omega)
        refine Ev.step (fun k => by simp only [laws_szWriteS.l0]; rw [if_pos (by omega), if_pos (by omega), rd_e j hj]) (Ev.bind (szWrite_ev (xs[j].f0) (xs[j].f1) a h0 hB (hfin xs[j] (List.getElem_mem hj))) ?_)
        rw [left?_no hw']
        exact Ev.ite_pos (by omega) (Ev.now _)) (a - (xs.length : Int)) (by omega) (by omega)
    rw [left?_add h] at key
    refine Ev.congr (fun k => ?_) key
    unfold laws_szWriteS.f
    rw [wrap_in (by omega) (by omega), if_neg (by omega)]
    rfl
  · refine Ev.all fun k => ?_
    unfold laws_szWriteS.f
    rw [wrap_in (by omega) (by omega), if_pos (by omega), left?_no (by omega)]
theorem szWriteSS_ev (xs : (List (List S139))) (a : Int) (h0 : 0 ≤ a) (hB : a ≤ 1048576) (hfin : (xs.length ≤ 9223372036854775807 ∧ ∀ y ∈ xs, (y.length ≤ 9223372036854775807 ∧ ∀ y' ∈ y, y'.f1.length ≤ 9223372036854775807))) : Ev (fun k => laws_szWriteSS.f k xs a) (left? (xs.length + total wlWriteS xs) a) := by
  obtain ⟨hl, hfin⟩ := hfin
  have rd_e : ∀ (j : Nat) (hj : j < xs.length), rd_L5 xs (j : Int) = xs[j] := fun j hj => by simp [rd_L5, List.getD_eq_getElem?_getD, hj]
  by_cases h : (xs.length : Int) ≤ a
  · have key := sz_loop (L := fun j a k => laws_szWriteSS.l0 k xs a (j : Int)) xs wlWriteS 1048576 (fun a => Ev.one fun k => by simp only [laws_szWriteSS.l0]; rw [if_neg (by omega)])
      (fun j hj a hB hw r ih => by
        have h0 : 0 ≤ a := by omega
        have hw' : (((xs[j].length + total wlWrite xs[j]) : Nat) : Int) ≤ a := hw
        refine Ev.step (fun k => by simp only [laws_szWriteSS.l0]; rw [if_pos (by omega), if_pos (by omega), rd_e j hj]) (Ev.bind (szWriteS_ev xs[j] a h0 hB (hfin xs[j] (List.getElem_mem hj))) ?_)
        rw [left?_yes hw', wrapS hj hl]
        exact Ev.ite_neg (by omega) ih)
      (fun j hj a h0 hB hw => by
        have hw' : ¬ (((xs[j].length + total wlWrite xs[j]) : Nat) : Int) ≤ a := by have : a < (wlWriteS xs[j] : Int) := hw; intro c; exact absurd (show (wlWriteS xs[j] : Int) ≤ a from c) (by omega)
        refine Ev.step (fun k => by simp only [laws_szWriteSS.l0]; rw [if_pos (by omega), if_pos (by omega), rd_e j hj]) (Ev.bind (szWriteS_ev xs[j] a h0 hB (hfin xs[j] (List.getElem_mem hj))) ?_)
        rw [left?_no hw']
        exact Ev.ite_pos (by omega) (Ev.now _)) (a - (xs.length : Int)) (by omega) (by omega)
    rw [left?_add h] at key
    refine Ev.congr (fun k => ?_) key
    unfold laws_szWriteSS.f
    rw [wrap_in (by omega) (by omega), if_neg (by omega)]
    rfl
  · refine Ev.all fun k => ?_
    unfold laws_szWriteSS.f
    rw [wrap_in (by omega) (by omega), if_pos (by omega), left?_no (by omega)]
theorem szMemory_ev (a_0 : (List (List S139))) (a : Int) (h0 : 0 ≤ a) (hB : a ≤ 1048576) (hfin : (a_0.length ≤ 9223372036854775807 ∧ ∀ y ∈ a_0, (y.length ≤ 9223372036854775807 ∧ ∀ y' ∈ y, y'.f1.length ≤ 9223372036854775807))) : Ev (fun k => laws_szMemory.f k a_0 a) (left? ((a_0.length + total wlWriteS a_0)) a) := by
  simp only [laws_szMemory.f]
  refine Ev.bind (szWriteSS_ev a_0 a (by omega) (by omega) hfin) ?_
  by_cases c0 : (((a_0.length + total wlWriteS a_0) : Nat) : Int) ≤ a
  case neg => rw [left?_no c0]; (try rw [left?_no (by omega)]); exact Ev.ite_pos (by omega) (Ev.now _)
  rw [left?_yes c0]
  refine Ev.ite_neg (by omega) ?_
  (try rw [left?_yes (by omega)])
  exact Ev.val (by omega) (Ev.now _)
theorem toWrite_ev (a_0 : Int) (a_1 : (List Int)) (h : a_1.length ≤ 1048576) : Ev (fun k => laws_toWrite.f k a_0 a_1) (a_0, a_1) := by
  simp only [laws_toWrite.f]
  refine Ev.bind (toIntS_ev a_1 (by omega)) ?_
  try simp only []
  exact Ev.now _
theorem toWriteS_ev (xs : (List S139)) (h : (xs.length + total wlWrite xs) ≤ 1048576) : Ev (fun k => laws_toWriteS.f k xs) (xs.map cvWrite) := by
  have rd_e : ∀ (j : Nat) (hj : j < xs.length), rd_T139 xs (j : Int) = xs[j] := fun j hj => by simp [rd_T139, List.getD_eq_getElem?_getD, hj]
  have key := to_loop (L := fun j ys k => laws_toWriteS.l0 k xs ys (j : Int)) xs cvWrite z43 (fun ys _ => Ev.one fun k => by simp only [laws_toWriteS.l0]; rw [if_neg (by omega)])
    (fun j hj ys hy r ih => by
      refine Ev.step (fun k => by simp only [laws_toWriteS.l0]; rw [if_pos (by omega), if_pos (by omega), rd_e j hj]) (Ev.bind (toWrite_ev (xs[j].f0) (xs[j].f1) (by have := total_mem wlWrite (List.getElem_mem hj); have h2 : xs[j].f1.length = wlWrite xs[j] := rfl; omega)) ?_)
      refine Ev.ite_pos (by omega) ?_
      rw [wrapS hj (by omega), Int.toNat_natCast]
      exact ih)
  refine Ev.congr (fun k => ?_) key
  unfold laws_toWriteS.f
  rw [if_pos (by omega), if_pos (by simp; omega)]
  simp only [Int.toNat_natCast]
  rfl
theorem toWriteSS_ev (xs : (List (List S139))) (h : (xs.length + total wlWriteS xs) ≤ 1048576) : Ev (fun k => laws_toWriteSS.f k xs) (xs.map cvWriteS) := by
  have rd_e : ∀ (j : Nat) (hj : j < xs.length), rd_L5 xs (j : Int) = xs[j] := fun j hj => by simp [rd_L5, List.getD_eq_getElem?_getD, hj]
  have key := to_loop (L := fun j ys k => laws_toWriteSS.l0 k xs ys (j : Int)) xs cvWriteS [] (fun ys _ => Ev.one fun k => by simp only [laws_toWriteSS.l0]; rw [if_neg (by omega)])
    (fun j hj ys hy r ih => by
      refine Ev.step (fun k => by simp only [laws_toWriteSS.l0]; rw [if_pos (by omega), if_pos (by omega), rd_e j hj]) (Ev.bind (toWriteS_ev xs[j] (by have := total_mem wlWriteS (List.getElem_mem hj); have h2 : (xs[j].length + total wlWrite xs[j]) = wlWriteS xs[j] := rfl; omega)) ?_)
      refine Ev.ite_pos (by omega) ?_
      rw [wrapS hj (by omega), Int.toNat_natCast]
      exact ih)
  refine Ev.congr (fun k => ?_) key
  unfold laws_toWriteSS.f
  rw [if_pos (by omega), if_pos (by simp; omega)]
  simp only [Int.toNat_natCast]
  rfl
theorem toMemory_ev (a_0 : (List (List S139))) (h : (a_0.length + total wlWriteS a_0) ≤ 1048576) : Ev (fun k => laws_toMemory.f k a_0) (a_0.map cvWriteS) := by
  simp only [laws_toMemory.f]
  refine Ev.bind (toWriteSS_ev a_0 h) ?_
  try simp only []
  exact Ev.now _
def inn (a lo hi : Int) : Bool := decide (lo ≤ a ∧ a ≤ hi)
theorem spec_l1In_eq (a lo hi : Int) : spec_l1In.f a lo hi = some (inn a lo hi) := by
  unfold spec_l1In.f inn
  by_cases h : a ≥ lo
  · rw [if_pos h]; congr 1; simp; omega
  · rw [if_neg h, decide_eq_false (by omega)]
theorem impl_within_eq (a lo hi : Int) : impl_within.f a lo hi = some (inn a lo hi) := by
  unfold impl_within.f inn
  by_cases h : a ≥ lo
  · rw [if_pos h]; congr 1; simp; omega
  · rw [if_neg h, decide_eq_false (by omega)]
def viewIn (m : List (List S43)) (v : List Int) (i : Nat) : Bool := inn (v.getD i 0) 0 (((m.getD i []).length : Int) - 1)
def viewOk (m : List (List S43)) (v : List Int) : Bool := decide (v.length = m.length) && (List.range v.length).all (viewIn m v)
theorem rd_cell (m : List (List S43)) (j : Nat) : rd_L3 m (j : Int) = m.getD j [] := by simp [rd_L3]
theorem rd_int (v : List Int) (j : Nat) : rd v (j : Int) = v.getD j 0 := by simp [rd]
def Small (m : List (List S43)) : Prop := m.length ≤ 1048576 ∧ ∀ c ∈ m, c.length ≤ 1048576 ∧ ∀ w ∈ c, w.f1.length ≤ 1048576
theorem Small.at {m : List (List S43)} (h : Small m) (j : Nat) : (m.getD j []).length ≤ 1048576 := by
  rw [List.getD_eq_getElem?_getD]
  cases e : m[j]? with
  | none => simp
  | some c => exact (h.2 c (List.mem_of_getElem? e)).1
theorem range_get {n j : Nat} (h : j < (List.range n).length) : (List.range n)[j] = j := by simp
theorem spec_ViewOk_ev (m : List (List S43)) (v : List Int) (hm : Small m) (hv : v.length ≤ 1048576) : Ev (fun k => spec_ViewOk.f k m v) (viewOk m v) := by
  by_cases hl : v.length = m.length
  · have key := all_loop (L := fun j k => spec_ViewOk.l0 k v (j : Int) m) (List.range v.length) (viewIn m v) (b := true) (Ev.one fun k => by
        simp only [spec_ViewOk.l0]
        rw [if_neg (by simp)])
      (fun j hj hp r ih => by
        rw [List.length_range] at hj
        rw [range_get] at hp
        have h1 := hm.at j
        refine Ev.step (fun k => ?_) ih
        simp only [spec_ViewOk.l0]
        rw [if_pos (by omega), if_pos (by omega), if_pos (by omega), rd_int, rd_cell, wrap_in (by omega) (by omega), spec_l1In_eq, Option.bind_some, if_pos (show inn (v.getD j 0) 0 (((m.getD j []).length : Int) - 1) = true from hp), wrapS hj (by omega)])
      (fun j hj hp => by
        rw [List.length_range] at hj
        rw [range_get] at hp
        have h1 := hm.at j
        refine Ev.one fun k => ?_
        simp only [spec_ViewOk.l0]
        rw [if_pos (by omega), if_pos (by omega), if_pos (by omega), rd_int, rd_cell, wrap_in (by omega) (by omega), spec_l1In_eq, Option.bind_some, if_neg (show ¬ inn (v.getD j 0) 0 (((m.getD j []).length : Int) - 1) = true from fun e => by have e' : viewIn m v j = true := e; rw [hp] at e'; cases e')])
    rw [Bool.and_true] at key
    refine Ev.congr (fun k => ?_) (Ev.val (by rw [viewOk, decide_eq_true hl, Bool.true_and]) key)
    unfold spec_ViewOk.f
    rw [if_pos (by omega)]
    rfl
  · refine Ev.all fun k => ?_
    unfold spec_ViewOk.f
    rw [if_neg (by omega), viewOk, decide_eq_false hl, Bool.false_and]
theorem impl_ViewOk_ev (m : List (List S43)) (v : List Int) (hm : Small m) (hv : v.length ≤ 1048576) : Ev (fun k => impl_ViewOk.f k m v) (viewOk m v) := by
  by_cases hl : v.length = m.length
  · have key := all_loop (L := fun j k => impl_ViewOk.l0 k v (v.length : Int) (j : Int) m) (List.range v.length) (viewIn m v) (b := true) (Ev.one fun k => by
        simp only [impl_ViewOk.l0]
        rw [if_neg (by simp)])
      (fun j hj hp r ih => by
        rw [List.length_range] at hj
        rw [range_get] at hp
        have h1 := hm.at j
        refine Ev.step (fun k => ?_) ih
        simp only [impl_ViewOk.l0]
        rw [if_pos (by omega), if_pos (by omega), if_pos (by omega), if_pos (by omega), rd_int, rd_cell, wrap_in (by omega) (by omega), impl_within_eq, Option.bind_some, if_pos (show inn (v.getD j 0) 0 (((m.getD j []).length : Int) - 1) = true from hp), wrapS hj (by omega)])
      (fun j hj hp => by
        rw [List.length_range] at hj
        rw [range_get] at hp
        have h1 := hm.at j
        refine Ev.one fun k => ?_
        simp only [impl_ViewOk.l0]
        rw [if_pos (by omega), if_pos (by omega), if_pos (by omega), if_pos (by omega), rd_int, rd_cell, wrap_in (by omega) (by omega), impl_within_eq, Option.bind_some, if_neg (show ¬ inn (v.getD j 0) 0 (((m.getD j []).length : Int) - 1) = true from fun e => by have e' : viewIn m v j = true := e; rw [hp] at e'; cases e')])
    rw [Bool.and_true] at key
    refine Ev.congr (fun k => ?_) (Ev.val (by rw [viewOk, decide_eq_true hl, Bool.true_and]) key)
    unfold impl_ViewOk.f
    rw [if_pos (by omega)]
    rfl
  · refine Ev.all fun k => ?_
    unfold impl_ViewOk.f
    rw [if_neg (by omega), viewOk, decide_eq_false hl, Bool.false_and]
theorem small_of (xs : List (List S139)) (h : xs.length + total wlWriteS xs ≤ 1048576) : Small (xs.map cvWriteS) := by
  refine ⟨by simp; omega, fun c hc => ?_⟩
  obtain ⟨y, hy, rfl⟩ := List.mem_map.1 hc
  have h1 := total_mem wlWriteS hy
  have h2 : wlWriteS y = y.length + total wlWrite y := rfl
  refine ⟨by simp [cvWriteS]; omega, fun w hw => ?_⟩
  obtain ⟨z, hz, rfl⟩ := List.mem_map.1 hw
  have h3 := total_mem wlWrite hz
  have h4 : wlWrite z = z.f1.length := rfl
  show z.f1.length ≤ 1048576
  omega
theorem eq_small (xs : List (List S139)) (h : xs.length + total wlWriteS xs ≤ 1048576) : (xs.map cvWriteS).length + total wiWriteS (xs.map cvWriteS) ≤ 1048576 := by
  rw [List.length_map, total_map wlWriteS wiWriteS cvWriteS w_cvWriteS]
  exact h
def cellIn (m : List (List S43)) (c : List S43) : Bool := inn (c.length : Int) 1 4000 && c.all (fun w => viewOk m w.f1)
def memOk (m : List (List S43)) : Bool := m.all (cellIn m) && decide (m.length = 24)
theorem rd_write (l : List S43) (j : Nat) (h : j < l.length) : rd_T43 l (j : Int) = l[j] := by simp [rd_T43, List.getD_eq_getElem?_getD, h]
theorem rd_cell' (m : List (List S43)) (j : Nat) (h : j < m.length) : rd_L3 m (j : Int) = m[j] := by simp [rd_L3, List.getD_eq_getElem?_getD, h]
theorem spec_MemoryOk_ev (m : List (List S43)) (hm : Small m) : Ev (fun k => spec_MemoryOk.f k m) (memOk m) := by
  have hl := hm.1
  by_cases h24 : m.length = 24
  case neg =>
    refine Ev.all fun k => ?_
    unfold spec_MemoryOk.f
    rw [if_neg (by omega), memOk, decide_eq_false h24, Bool.and_false]
  simp only [spec_MemoryOk.f]
  refine Ev.ite_pos (by omega) ?_
  refine all_loop (L := fun j k => spec_MemoryOk.l0 k (j : Int) m) m (cellIn m) ?_ (fun j hj hp r ih => ?_) (fun j hj hp => ?_)
  · refine Ev.one fun k => ?_
    simp only [spec_MemoryOk.l0]
    rw [if_neg (by omega), decide_eq_true h24]
  · have hc := hm.2 m[j] (List.getElem_mem hj)
    have h1 : inn (m[j].length : Int) 1 4000 = true := by unfold cellIn at hp; rw [Bool.and_eq_true] at hp; exact hp.1
    have h2 : m[j].all (fun w => viewOk m w.f1) = true := by unfold cellIn at hp; rw [Bool.and_eq_true] at hp; exact hp.2
    refine Ev.step (fun k => by simp only [spec_MemoryOk.l0, spec_l1In_eq, Option.bind_some]; rw [if_pos (by omega), if_pos (by omega), if_pos (by omega), rd_cell' m j hj, if_pos h1]) ?_
    refine yes_all (L := fun i k => spec_MemoryOk.l1 k (j : Int) (i : Int) m) m[j] (fun w => viewOk m w.f1) h2 ?_ (fun i hi hq ih' => ?_)
    · exact Ev.step (fun k => by simp only [spec_MemoryOk.l1]; rw [if_pos (by omega), if_pos (by omega), rd_cell' m j hj, if_neg (by omega), wrapS hj (by omega)]) ih
    · refine Ev.step (fun k => by simp only [spec_MemoryOk.l1]; rw [if_pos (by omega), if_pos (by omega), rd_cell' m j hj, if_pos (by omega), if_pos (by omega), rd_write _ i hi]) (Ev.bind (spec_ViewOk_ev m _ hm (hc.2 _ (List.getElem_mem hi))) ?_)
      refine Ev.ite_pos hq ?_
      rw [wrapS hi (by omega)]
      exact ih'
  · have hc := hm.2 m[j] (List.getElem_mem hj)
    by_cases h1 : inn (m[j].length : Int) 1 4000 = true
    · have h2 : m[j].all (fun w => viewOk m w.f1) = false := by unfold cellIn at hp; rwa [h1, Bool.true_and] at hp
      refine Ev.step (fun k => by simp only [spec_MemoryOk.l0, spec_l1In_eq, Option.bind_some]; rw [if_pos (by omega), if_pos (by omega), if_pos (by omega), rd_cell' m j hj, if_pos h1]) ?_
      refine no_all (L := fun i k => spec_MemoryOk.l1 k (j : Int) (i : Int) m) m[j] (fun w => viewOk m w.f1) h2 (fun i hi hq ih' => ?_) (fun i hi hq => ?_)
      · refine Ev.step (fun k => by simp only [spec_MemoryOk.l1]; rw [if_pos (by omega), if_pos (by omega), rd_cell' m j hj, if_pos (by omega), if_pos (by omega), rd_write _ i hi]) (Ev.bind (spec_ViewOk_ev m _ hm (hc.2 _ (List.getElem_mem hi))) ?_)
        refine Ev.ite_pos hq ?_
        rw [wrapS hi (by omega)]
        exact ih'
      · refine Ev.step (fun k => by simp only [spec_MemoryOk.l1]; rw [if_pos (by omega), if_pos (by omega), rd_cell' m j hj, if_pos (by omega), if_pos (by omega), rd_write _ i hi]) (Ev.bind (spec_ViewOk_ev m _ hm (hc.2 _ (List.getElem_mem hi))) ?_)
        exact Ev.ite_neg (by rw [hq]; simp) (Ev.now _)
    · refine Ev.one fun k => ?_
      simp only [spec_MemoryOk.l0, spec_l1In_eq, Option.bind_some]
      rw [if_pos (by omega), if_pos (by omega), if_pos (by omega), rd_cell' m j hj, if_neg h1]
theorem impl_MemoryOk_ev (m : List (List S43)) (hm : Small m) : Ev (fun k => impl_MemoryOk.f k m) (memOk m) := by
  have hl := hm.1
  refine all_loop (L := fun j k => impl_MemoryOk.l0 k m (m.length : Int) (j : Int) m) m (cellIn m) ?_ (fun j hj hp r ih => ?_) (fun j hj hp => ?_)
  · refine Ev.one fun k => ?_
    simp only [impl_MemoryOk.l0]
    rw [if_neg (by omega)]
    congr 1
    rw [Bool.eq_iff_iff]
    simp
    omega
  · have hc := hm.2 m[j] (List.getElem_mem hj)
    have h1 : inn (m[j].length : Int) 1 4000 = true := by unfold cellIn at hp; rw [Bool.and_eq_true] at hp; exact hp.1
    have h2 : m[j].all (fun w => viewOk m w.f1) = true := by unfold cellIn at hp; rw [Bool.and_eq_true] at hp; exact hp.2
    refine Ev.step (fun k => by simp only [impl_MemoryOk.l0, impl_within_eq, Option.bind_some]; rw [if_pos (by omega), if_pos (by omega), if_pos (by omega), rd_cell' m j hj, if_pos h1]) ?_
    refine yes_all (L := fun i k => impl_MemoryOk.l1 k m (m.length : Int) (j : Int) m[j] (m[j].length : Int) (i : Int) m) m[j] (fun w => viewOk m w.f1) h2 ?_ (fun i hi hq ih' => ?_)
    · exact Ev.step (fun k => by simp only [impl_MemoryOk.l1]; rw [if_neg (by omega), wrapS hj (by omega)]) ih
    · refine Ev.step (fun k => by simp only [impl_MemoryOk.l1]; rw [if_pos (by omega), if_pos (by omega), if_pos (by omega), rd_write _ i hi]) (Ev.bind (impl_ViewOk_ev m _ hm (hc.2 _ (List.getElem_mem hi))) ?_)
      refine Ev.ite_pos hq ?_
      rw [wrapS hi (by omega)]
      exact ih'
  · have hc := hm.2 m[j] (List.getElem_mem hj)
    by_cases h1 : inn (m[j].length : Int) 1 4000 = true
    · have h2 : m[j].all (fun w => viewOk m w.f1) = false := by unfold cellIn at hp; rwa [h1, Bool.true_and] at hp
      refine Ev.step (fun k => by simp only [impl_MemoryOk.l0, impl_within_eq, Option.bind_some]; rw [if_pos (by omega), if_pos (by omega), if_pos (by omega), rd_cell' m j hj, if_pos h1]) ?_
      refine no_all (L := fun i k => impl_MemoryOk.l1 k m (m.length : Int) (j : Int) m[j] (m[j].length : Int) (i : Int) m) m[j] (fun w => viewOk m w.f1) h2 (fun i hi hq ih' => ?_) (fun i hi hq => ?_)
      · refine Ev.step (fun k => by simp only [impl_MemoryOk.l1]; rw [if_pos (by omega), if_pos (by omega), if_pos (by omega), rd_write _ i hi]) (Ev.bind (impl_ViewOk_ev m _ hm (hc.2 _ (List.getElem_mem hi))) ?_)
        refine Ev.ite_pos hq ?_
        rw [wrapS hi (by omega)]
        exact ih'
      · refine Ev.step (fun k => by simp only [impl_MemoryOk.l1]; rw [if_pos (by omega), if_pos (by omega), if_pos (by omega), rd_write _ i hi]) (Ev.bind (impl_ViewOk_ev m _ hm (hc.2 _ (List.getElem_mem hi))) ?_)
        exact Ev.ite_neg (by rw [hq]; simp) (Ev.now _)
    · refine Ev.one fun k => ?_
      simp only [impl_MemoryOk.l0, impl_within_eq, Option.bind_some]
      rw [if_pos (by omega), if_pos (by omega), if_pos (by omega), rd_cell' m j hj, if_neg h1]
theorem mem_cell {m : List (List S43)} (h : memOk m = true) {b : Int} (h0 : 0 ≤ b) (h1 : b < 24) : b < (m.length : Int) ∧ 1 ≤ (m.getD b.toNat []).length ∧ (m.getD b.toNat []).length ≤ 4000 := by
  unfold memOk at h
  simp only [Bool.and_eq_true, decide_eq_true_eq] at h
  obtain ⟨ha, hl⟩ := h
  have hj : b.toNat < m.length := by omega
  have hc := List.all_eq_true.mp ha m[b.toNat] (List.getElem_mem hj)
  unfold cellIn inn at hc
  simp only [Bool.and_eq_true, decide_eq_true_eq] at hc
  have e : m.getD b.toNat [] = m[b.toNat] := by simp [List.getD_eq_getElem?_getD, hj]
  rw [e]
  omega
theorem impl_copyInts_eq (l : List Int) (h : l.length < 17592186044416) : impl_copyInts.f l = some l := by
  simp [impl_copyInts.f, h]
def jn (a b : List Int) : List Int := List.zipWith mx a b
theorem jn_length (a b : List Int) : (jn a b).length = min a.length b.length := by simp [jn]
theorem jn_step {a b : List Int} {j : Nat} (ha : j < a.length) (hb : j < b.length) : (jn a b).take (j + 1) = (jn a b).take j ++ [mx a[j] b[j]] := by
  rw [List.take_succ_eq_append_getElem (by rw [jn_length]; omega)]
  simp [jn]
theorem jn_take (a b : List Int) : (jn a b).take (min a.length b.length) = jn a b := List.take_of_length_le (by rw [jn_length]; omega)
theorem spec_l1Max_eq (a b : Int) : spec_l1Max.f a b = some (mx a b) := by
  unfold spec_l1Max.f mx
  by_cases h : a > b
  · rw [if_pos h, if_neg (by omega)]
  · by_cases e : a < b
    · rw [if_neg h, if_pos e]
    · rw [if_neg h, if_neg e, show a = b by omega]
theorem spec_Join_ev (a b : List Int) (h : a.length ≤ 17592186044415) : Ev (fun k => spec_Join.f k a b) (jn a b) := by
  have key := count_up (L := fun j k => spec_Join.l0 k a b ((jn a b).take j) (j : Int)) (R := fun _ => jn a b) (n := min a.length b.length)
    (Ev.one fun k => by
      simp only [spec_Join.l0]
      by_cases hc : ((min a.length b.length : Nat) : Int) < (a.length : Int)
      · rw [if_pos hc, if_neg (by omega), jn_take]
      · rw [if_neg hc, jn_take])
    (fun j hj ih => Ev.step (fun k => by
      simp only [spec_Join.l0]
      rw [if_pos (by omega), if_pos (by omega), if_pos (by omega), spec_l1Max_eq, Option.bind_some, if_pos (by simp [jn_length]; omega), rd_get (by omega), rd_get (by omega), ← jn_step (by omega) (by omega), wrapS (n := a.length) (by omega) (by omega)]) ih)
  exact key 0 (Nat.zero_le _)
theorem impl_Join_ev (a b : List Int) (h : a.length ≤ 17592186044415) : Ev (fun k => impl_Join.f k a b) (jn a b) := by
  have key := count_up (L := fun j k => impl_Join.l0 k a b ((jn a b).take j) (j : Int)) (R := fun _ => jn a b) (n := min a.length b.length)
    (Ev.one fun k => by
      simp only [impl_Join.l0]
      by_cases hc : ((min a.length b.length : Nat) : Int) < (a.length : Int)
      · rw [if_pos hc, if_neg (by omega), jn_take]
      · rw [if_neg hc, jn_take])
    (fun j hj ih => Ev.step (fun k => by
      simp only [impl_Join.l0]
      rw [if_pos (by omega), if_pos (by omega), if_pos (by omega), if_pos (by simp [jn_length]; omega), rd_get (by omega), rd_get (by omega), ← jn_step (by omega) (by omega), wrapS (n := a.length) (by omega) (by omega)]) ih)
  exact key 0 (Nat.zero_le _)
def rightOf (m : List (List S43)) (v : List Int) (cell : Int) : Bool := memOk m && viewOk m v && inn cell 0 23
theorem right_in {m : List (List S43)} {v : List Int} {cell : Int} (h : rightOf m v cell = true) :
    memOk m = true ∧ viewOk m v = true ∧ inn cell 0 23 = true ∧ 0 ≤ cell ∧ cell < (m.length : Int) ∧ cell < (v.length : Int) ∧ m.length = 24 ∧ v.length = 24 ∧ 1 ≤ (rd_L3 m cell).length ∧ (rd_L3 m cell).length ≤ 4000 ∧ 0 ≤ rd v cell ∧ rd v cell ≤ ((rd_L3 m cell).length : Int) - 1 := by
  simp only [rightOf, Bool.and_eq_true] at h
  obtain ⟨⟨hm, hv⟩, hc⟩ := h
  have hc' := hc
  simp only [inn, decide_eq_true_eq] at hc'
  obtain ⟨g1, g2, g3⟩ := mem_cell hm hc'.1 (by omega)
  have hm2 := hm
  simp only [memOk, Bool.and_eq_true, decide_eq_true_eq] at hm2
  have hv2 := hv
  simp only [viewOk, Bool.and_eq_true, decide_eq_true_eq] at hv2
  have e : rd_L3 m cell = m.getD cell.toNat [] := rfl
  have hin := List.all_eq_true.1 hv2.2 cell.toNat (List.mem_range.2 (by omega))
  simp only [viewIn, inn, decide_eq_true_eq] at hin
  have e2 : rd v cell = v.getD cell.toNat 0 := rfl
  rw [e, e2]
  exact ⟨hm, hv, hc, hc'.1, g1, by omega, hm2.2, by omega, g2, g3, hin.1, hin.2⟩
theorem spec_Right_ev (m : List (List S43)) (hm : Small m) (v : List Int) (hv : v.length ≤ 1048576) (cell : Int) : Ev (fun k => spec_l6Right.f k m v cell) (rightOf m v cell) := by
  simp only [spec_l6Right.f, spec_l1In_eq, Option.bind_some]
  refine Ev.bind (spec_MemoryOk_ev m hm) ?_
  unfold rightOf
  by_cases a1 : memOk m = true
  case neg => rw [show memOk m = false by simpa using a1]; exact Ev.ite_neg (by simp) (Ev.now _)
  rw [a1]
  refine Ev.ite_pos rfl (Ev.bind (spec_ViewOk_ev m v hm hv) ?_)
  by_cases a2 : viewOk m v = true
  case neg => rw [show viewOk m v = false by simpa using a2]; exact Ev.ite_neg (by simp) (Ev.now _)
  rw [a2]
  simp only [Bool.true_and]
  exact Ev.ite_pos (by simp) (Ev.now _)
theorem impl_isCell_eq (c : Int) : impl_isCell.f c = some (inn c 0 23) := by simp [impl_isCell.f, impl_within_eq]
def whichOf (m : List (List S43)) (v : List Int) (cell late : Int) : Int := mx (((rd_L3 m cell).length : Int) - 1 - mx late 0) (rd v cell)
def loadOf (m : List (List S43)) (v : List Int) (cell late : Int) (hold : Bool) : Int × List Int :=
  ((rd_T43 (rd_L3 m cell) (whichOf m v cell late)).f0, if hold = true then jn (v.set cell.toNat (whichOf m v cell late)) (rd_T43 (rd_L3 m cell) (whichOf m v cell late)).f1 else v.set cell.toNat (whichOf m v cell late))
theorem which_in {m : List (List S43)} {v : List Int} {cell late : Int} (h : rightOf m v cell = true) : 0 ≤ whichOf m v cell late ∧ whichOf m v cell late < ((rd_L3 m cell).length : Int) := by
  obtain ⟨-, -, -, -, -, -, -, -, g1, g2, g3, g4⟩ := right_in h
  unfold whichOf mx
  split <;> split <;> omega
theorem late_wrap {late n : Int} (h0 : -9223372036854775808 ≤ late) (h1 : late ≤ 9223372036854775807) (hn : 1 ≤ n) (hn1 : n ≤ 4000) : wrap64 (wrap64 (n - 1) - mx late 0) = n - 1 - mx late 0 := by
  rw [wrap_in (n := n - 1) (by omega) (by omega)]
  refine wrap_in ?_ ?_ <;> (unfold mx; split <;> omega)
theorem impl_load_ev (m : List (List S43)) (v : List Int) (cell late : Int) (hold : Bool) (h : rightOf m v cell = true) (h0 : -9223372036854775808 ≤ late) (h1 : late ≤ 9223372036854775807) :
    Ev (fun k => impl_Memory_load.f k m v cell late hold) (loadOf m v cell late hold) := by
  obtain ⟨-, -, -, c0, c1, c2, -, cv, g1, g2, g3, g4⟩ := right_in h
  obtain ⟨w0, w1⟩ := which_in (late := late) h
  simp only [impl_Memory_load.f, late_wrap h0 h1 (n := ((rd_L3 m cell).length : Int)) (by omega) (by omega)]
  refine Ev.ite_pos c0 (Ev.ite_pos c1 (Ev.ite_pos c2 ?_))
  rw [impl_copyInts_eq v (by omega)]
  simp only [Option.bind_some]
  refine Ev.ite_pos c2 ?_
  refine Ev.ite_pos w0 (Ev.ite_pos w1 ?_)
  unfold loadOf
  cases hold
  · exact Ev.ite_neg (by simp) (Ev.now _)
  · refine Ev.ite_pos rfl ?_
    refine Ev.bind (impl_Join_ev _ _ (by rw [List.length_set]; omega)) ?_
    exact Ev.now _
theorem spec_load_ev (m : List (List S43)) (v : List Int) (cell late : Int) (hold : Bool) (h : rightOf m v cell = true) (h0 : -9223372036854775808 ≤ late) (h1 : late ≤ 9223372036854775807) :
    Ev (fun k => spec_l6Load.f k m v cell late hold) (loadOf m v cell late hold) := by
  obtain ⟨-, -, -, c0, c1, c2, -, cv, g1, g2, g3, g4⟩ := right_in h
  obtain ⟨w0, w1⟩ := which_in (late := late) h
  simp only [spec_l6Load.f, spec_l1Max_eq, Option.bind_some, late_wrap h0 h1 (n := ((rd_L3 m cell).length : Int)) (by omega) (by omega)]
  refine Ev.ite_pos c0 (Ev.ite_pos c1 (Ev.ite_pos c2 ?_))
  refine Ev.ite_pos (by simp; omega) ?_
  rw [List.nil_append]
  refine Ev.ite_pos c2 ?_
  unfold loadOf
  cases hold
  · refine Ev.ite_neg (by simp) (Ev.ite_pos w0 (Ev.ite_pos w1 (Ev.now _)))
  · refine Ev.ite_pos rfl (Ev.ite_pos w0 (Ev.ite_pos w1 ?_))
    refine Ev.bind (spec_Join_ev _ _ (by rw [List.length_set]; omega)) ?_
    exact Ev.now _
theorem impl_copyMemory_ev (m : List (List S43)) (hm : Small m) : Ev (fun k => impl_copyMemory.f k m) m := by
  have key := count_up (L := fun j k => impl_copyMemory.l0 k m (m.length : Int) (j : Int) (m.take j)) (R := fun _ => m) (n := m.length)
    (Ev.one fun k => by
      simp only [impl_copyMemory.l0]
      rw [if_neg (by omega), List.take_length])
    (fun i hi ih => by
      have hs := hm.2 m[i] (List.getElem_mem hi)
      have hm1 := hm.1
      have rd_e : rd_L3 m (i : Int) = m[i] := rd_cell' m i hi
      refine Ev.step (fun k => by simp only [impl_copyMemory.l0]; rw [if_pos (by omega), if_pos (by omega), if_pos (by omega), rd_e]) ?_
      have inner := count_up (L := fun j k => impl_copyMemory.l1 k (m[i].take j) m (m.length : Int) (i : Int) m[i] (m[i].length : Int) (j : Int) (m.take i)) (R := fun _ => m) (n := m[i].length)
        (Ev.step (fun k => by
          simp only [impl_copyMemory.l1]
          rw [if_neg (by omega), if_pos (by rw [List.length_take]; omega), List.take_length, ← List.take_succ_eq_append_getElem hi, wrapS hi (by omega)]) ih)
        (fun j hj ih2 => Ev.step (fun k => by
          have hw := hs.2 m[i][j] (List.getElem_mem hj)
          simp only [impl_copyMemory.l1]
          rw [if_pos (by omega), if_pos (by omega), if_pos (by omega), rd_write m[i] j hj, impl_copyInts_eq _ (by omega), Option.bind_some, if_pos (by rw [List.length_take]; omega), wrapS hj (by omega)]
          rw [show ([⟨m[i][j].f0, m[i][j].f1⟩] : List S43) = [m[i][j]] from rfl, ← List.take_succ_eq_append_getElem hj]) ih2)
      exact inner 0 (Nat.zero_le _))
  exact key 0 (Nat.zero_le _)
theorem spec_l6Copy_ev (m : List (List S43)) (hm : Small m) : Ev (fun k => spec_l6Copy.f k m) m := by
  have key := count_up (L := fun j k => spec_l6Copy.l0 k (j : Int) m (m.take j)) (R := fun _ => m) (n := m.length)
    (Ev.one fun k => by
      simp only [spec_l6Copy.l0]
      rw [if_neg (by omega), List.take_length])
    (fun i hi ih => by
      have hs := hm.2 m[i] (List.getElem_mem hi)
      have hm1 := hm.1
      have rd_e : rd_L3 m (i : Int) = m[i] := rd_cell' m i hi
      refine Ev.step (fun k => by simp only [spec_l6Copy.l0]; rw [if_pos (by omega)]) ?_
      have inner := count_up (L := fun j k => spec_l6Copy.l1 k (i : Int) (m[i].take j) (j : Int) m (m.take i)) (R := fun _ => m) (n := m[i].length)
        (Ev.step (fun k => by
          simp only [spec_l6Copy.l1]
          rw [if_pos (by omega), if_pos (by omega), rd_e, if_neg (by omega), if_pos (by rw [List.length_take]; omega), List.take_length, ← List.take_succ_eq_append_getElem hi, wrapS hi (by omega)]) ih)
        (fun j hj ih2 => Ev.step (fun k => by
          have hw := hs.2 m[i][j] (List.getElem_mem hj)
          simp only [spec_l6Copy.l1, Option.bind_some]
          rw [if_pos (by omega), if_pos (by omega), rd_e, if_pos (by omega), if_pos (by omega), rd_write m[i] j hj, if_pos (by simp; omega), if_pos (by rw [List.length_take]; omega), wrapS hj (by omega), List.nil_append]
          rw [show ([⟨m[i][j].f0, m[i][j].f1⟩] : List S43) = [m[i][j]] from rfl, ← List.take_succ_eq_append_getElem hj]) ih2)
      exact inner 0 (Nat.zero_le _))
  exact key 0 (Nat.zero_le _)
def viewSt (m : List (List S43)) (v : List Int) (cell : Int) : List Int := v.set cell.toNat ((rd_L3 m cell).length : Int)
def toldOf (v : List Int) (cell : Int) (letGo : Bool) : List Int := if letGo = true then v else (List.replicate 24 0).set cell.toNat (rd v cell)
def storeOf (m : List (List S43)) (v : List Int) (cell x : Int) (letGo : Bool) : List (List S43) × List Int :=
  (m.set cell.toNat (rd_L3 m cell ++ [⟨x, toldOf (viewSt m v cell) cell letGo⟩]), viewSt m v cell)
def canSt (m : List (List S43)) (v : List Int) (cell : Int) : Bool := rightOf m v cell && decide ((rd_L3 m cell).length < 4000)
theorem spec_l6Store_of (m : List (List S43)) (v : List Int) (cell x : Int) (letGo : Bool) (c0 : 0 ≤ cell) (c1 : cell < (m.length : Int)) (c2 : cell < (v.length : Int)) (cv : v.length = 24) (g2 : (rd_L3 m cell).length ≤ 4000) : spec_l6Store.f m v cell x letGo = some (storeOf m v cell x letGo) := by
  have hv : (viewSt m v cell).length = 24 := by simp [viewSt, cv]
  simp only [spec_l6Store.f, Option.bind_some, List.nil_append]
  rw [if_pos (by simp; omega), if_pos c0, if_pos c1, if_pos c2, if_pos (by omega), if_pos (by rw [List.length_replicate]; omega)]
  have e : v.set cell.toNat ((rd_L3 m cell).length : Int) = viewSt m v cell := rfl
  rw [e]
  unfold storeOf toldOf
  cases letGo
  · rw [if_neg (by simp), if_pos (by omega), if_neg (by simp)]
  · rw [if_pos rfl, if_pos (by simp; omega), if_pos (by omega), if_pos rfl]
theorem impl_Memory_store_of (m : List (List S43)) (v : List Int) (cell x : Int) (letGo : Bool) (c0 : 0 ≤ cell) (c1 : cell < (m.length : Int)) (c2 : cell < (v.length : Int)) (cv : v.length = 24) (g2 : (rd_L3 m cell).length ≤ 4000) : impl_Memory_store.f m v cell x letGo = some (storeOf m v cell x letGo) := by
  have hv : (viewSt m v cell).length = 24 := by simp [viewSt, cv]
  simp only [impl_Memory_store.f]
  rw [impl_copyInts_eq v (by omega), Option.bind_some, if_pos c0, if_pos c1, if_pos c2, Option.bind_some, if_pos (by omega), if_pos (by rw [List.length_replicate]; omega)]
  have e : v.set cell.toNat ((rd_L3 m cell).length : Int) = viewSt m v cell := rfl
  rw [e]
  unfold storeOf toldOf
  cases letGo
  · rw [if_neg (by simp), if_pos (by omega), if_neg (by simp)]
  · rw [if_pos rfl, impl_copyInts_eq _ (by omega), Option.bind_some, if_pos (by omega), if_pos rfl]
theorem total_app {α : Type} (w : α → Nat) : ∀ xs ys : List α, total w (xs ++ ys) = total w xs + total w ys
  | [], ys => by simp [total]
  | x :: xs, ys => by rw [List.cons_append, total, total, total_app w xs ys]; omega
theorem total_set {α : Type} (w : α → Nat) : ∀ (xs : List α) (i : Nat) (h : i < xs.length) (y : α), total w (xs.set i y) + w xs[i] = total w xs + w y
  | x :: xs, 0, _, y => by simp only [List.set_cons_zero, total, List.getElem_cons_zero]; omega
  | x :: xs, i + 1, h, y => by
    have := total_set w xs i (by simpa using h) y
    simp only [List.set_cons_succ, total, List.getElem_cons_succ]
    omega
theorem storeOf_size (m : List (List S43)) (v : List Int) (cell x : Int) (letGo : Bool) (c0 : 0 ≤ cell) (c1 : cell < (m.length : Int)) (cv : v.length = 24) : (storeOf m v cell x letGo).1.length + total wiWriteS (storeOf m v cell x letGo).1 = m.length + total wiWriteS m + 25 ∧ (storeOf m v cell x letGo).2.length = v.length := by
  have hi : cell.toNat < m.length := by omega
  refine ⟨?_, by simp [storeOf, viewSt]⟩
  have h1 := total_set wiWriteS m cell.toNat hi (rd_L3 m cell ++ [⟨x, toldOf (viewSt m v cell) cell letGo⟩])
  have e : rd_L3 m cell = m[cell.toNat] := by simp [rd_L3, List.getD_eq_getElem?_getD, hi]
  have h2 : wiWriteS (rd_L3 m cell ++ [⟨x, toldOf (viewSt m v cell) cell letGo⟩]) = wiWriteS m[cell.toNat] + 1 + (toldOf (viewSt m v cell) cell letGo).length := by
    rw [e]
    simp only [wiWriteS, List.length_append, List.length_cons, List.length_nil, total_app, total]
    simp only [wiWrite]
    omega
  have h3 : (toldOf (viewSt m v cell) cell letGo).length = 24 := by
    unfold toldOf
    split <;> simp [viewSt, cv]
  show (m.set cell.toNat _).length + total wiWriteS (m.set cell.toNat _) = _
  rw [List.length_set]
  omega
theorem mem_view {m : List (List S43)} (h : memOk m = true) {cell j : Int} (c0 : 0 ≤ cell) (c1 : cell < 24) (j0 : 0 ≤ j) (j1 : j < ((rd_L3 m cell).length : Int)) : (rd_T43 (rd_L3 m cell) j).f1.length = 24 := by
  have hm := h
  simp only [memOk, Bool.and_eq_true, decide_eq_true_eq] at hm
  have hi : cell.toNat < m.length := by omega
  have e : rd_L3 m cell = m[cell.toNat] := by simp [rd_L3, List.getD_eq_getElem?_getD, hi]
  have hc := List.all_eq_true.1 hm.1 m[cell.toNat] (List.getElem_mem hi)
  simp only [cellIn, Bool.and_eq_true] at hc
  rw [e] at j1 ⊢
  have hj : j.toNat < (m[cell.toNat]).length := by omega
  have e2 : rd_T43 m[cell.toNat] j = (m[cell.toNat])[j.toNat] := by simp [rd_T43, List.getD_eq_getElem?_getD, hj]
  have hv := List.all_eq_true.1 hc.2 (m[cell.toNat])[j.toNat] (List.getElem_mem hj)
  simp only [viewOk, Bool.and_eq_true, decide_eq_true_eq] at hv
  rw [e2]
  omega
def swapOf (m : List (List S43)) (v : List Int) (cell x : Int) : List (List S43) × List Int × Int :=
  ((storeOf m (loadOf m v cell 0 true).2 cell x true).1, (storeOf m (loadOf m v cell 0 true).2 cell x true).2, (loadOf m v cell 0 true).1)
def swapAll (m : List (List S43)) (v : List Int) (cell x : Int) : List (List S43) × List Int × Int := if canSt m v cell = true then swapOf m v cell x else (m, v, 0)
theorem now_len {m : List (List S43)} {v : List Int} {cell : Int} (h : rightOf m v cell = true) (late : Int) : (loadOf m v cell late true).2.length = 24 := by
  obtain ⟨hm, -, hi, c0, c1, c2, hl, cv, g1, g2, g3, g4⟩ := right_in h
  obtain ⟨w0, w1⟩ := which_in (late := late) h
  have := mem_view hm c0 (by omega) w0 w1
  show (jn _ _).length = 24
  rw [jn_length, List.length_set]
  omega
theorem spec_Swap_ev (m : List (List S43)) (hm : Small m) (v : List Int) (hv : v.length ≤ 1048576) (cell x : Int) : Ev (fun k => spec_Swap.f k m v cell x) (swapAll m v cell x) := by
  simp only [spec_Swap.f]
  refine Ev.bind (spec_Right_ev m hm v hv cell) ?_
  have copied : ∀ b, b = true → Ev (fun k => spec_Swap.j0 k v cell x b m) (m, v, 0) := by
    rintro b rfl
    refine Ev.step (fun k => by simp only [spec_Swap.j0]; rw [if_pos trivial]) ?_
    refine Ev.bind (spec_l6Copy_ev m hm) ?_
    simp only [Option.bind_some, List.nil_append]
    exact Ev.ite_pos (by simp; omega) (Ev.now _)
  by_cases hr : rightOf m v cell = true
  · rw [hr]
    obtain ⟨-, -, -, c0, c1, c2, -, cv, -, g2, -, -⟩ := right_in hr
    have hn := now_len hr 0
    refine Ev.ite_pos rfl (Ev.ite_pos c0 (Ev.ite_pos c1 ?_))
    by_cases hl : (rd_L3 m cell).length < 4000
    · have hc : canSt m v cell = true := by simp [canSt, hr, hl]
      unfold swapAll
      rw [if_pos hc]
      refine Ev.step (fun k => by simp only [spec_Swap.j0]; rw [if_neg (by simp; omega)]) ?_
      refine Ev.bind (spec_load_ev m v cell 0 true hr (by omega) (by omega)) ?_
      refine Ev.bind (spec_l6Copy_ev m hm) ?_
      simp only [spec_l6Store_of m (loadOf m v cell 0 true).2 cell x true c0 c1 (by omega) hn g2, Option.bind_some]
      exact Ev.now _
    · have hc : canSt m v cell = false := by simp [canSt, hl]
      unfold swapAll
      rw [if_neg (by simp [hc])]
      exact copied _ (by simp; omega)
  · have hc : canSt m v cell = false := by simp [canSt, hr]
    unfold swapAll
    rw [if_neg (by simp [hc])]
    refine Ev.ite_neg hr ?_
    exact copied _ rfl
theorem impl_Swap_ev (m : List (List S43)) (hm : Small m) (v : List Int) (hv : v.length ≤ 1048576) (cell x : Int) : Ev (fun k => impl_Swap.f k m v cell x) (swapAll m v cell x) := by
  simp only [impl_Swap.f, impl_isCell_eq, Option.bind_some]
  refine Ev.bind (impl_copyMemory_ev m hm) ?_
  refine Ev.bind (impl_MemoryOk_ev m hm) ?_
  have copied : ∀ b, b = true → Ev (fun k => impl_Swap.j0 k v cell x b m) (m, v, 0) := by
    rintro b rfl
    refine Ev.one fun k => ?_
    simp only [impl_Swap.j0]
    rw [if_pos trivial, impl_copyInts_eq v (by omega), Option.bind_some]
  unfold swapAll
  by_cases a1 : memOk m = true
  case neg => rw [if_neg (fun c => a1 (by simp only [canSt, rightOf, Bool.and_eq_true] at c; exact c.1.1.1))]; exact Ev.ite_neg a1 (copied _ rfl)
  refine Ev.ite_pos a1 (Ev.bind (impl_ViewOk_ev m v hm hv) ?_)
  by_cases a2 : viewOk m v = true
  case neg => rw [if_neg (fun c => a2 (by simp only [canSt, rightOf, Bool.and_eq_true] at c; exact c.1.1.2))]; exact Ev.ite_neg a2 (copied _ rfl)
  refine Ev.ite_pos a2 ?_
  by_cases a3 : inn cell 0 23 = true
  case neg => rw [if_neg (fun c => a3 (by simp only [canSt, rightOf, Bool.and_eq_true] at c; exact c.1.2))]; exact Ev.ite_neg a3 (copied _ rfl)
  refine Ev.ite_pos a3 ?_
  have hr : rightOf m v cell = true := by simp [rightOf, a1, a2, a3]
  obtain ⟨-, -, -, c0, c1, c2, -, cv, -, g2, -, -⟩ := right_in hr
  have hn := now_len hr 0
  simp only [impl_Memory_hasRoom.f, if_pos c0, if_pos c1, Option.bind_some]
  by_cases hl : (rd_L3 m cell).length < 4000
  · rw [if_pos (by simp [canSt, hr, hl])]
    refine Ev.step (fun k => by simp only [impl_Swap.j0]; rw [if_neg (by simp; omega)]) ?_
    refine Ev.bind (impl_load_ev m v cell 0 true hr (by omega) (by omega)) ?_
    simp only [impl_Memory_store_of m (loadOf m v cell 0 true).2 cell x true c0 c1 (by omega) hn g2, Option.bind_some]
    exact Ev.now _
  · rw [if_neg (by simp [canSt, hl])]
    exact copied _ (by simp; omega)
theorem swap_size (m : List (List S43)) (v : List Int) (cell x : Int) : (swapAll m v cell x).1.length + total wiWriteS (swapAll m v cell x).1 ≤ m.length + total wiWriteS m + 25 ∧ (swapAll m v cell x).2.1.length ≤ v.length := by
  unfold swapAll
  by_cases hc : canSt m v cell = true
  case neg => rw [if_neg hc]; exact ⟨by show m.length + total wiWriteS m ≤ _; omega, Nat.le_refl _⟩
  rw [if_pos hc]
  have hr : rightOf m v cell = true := by simp only [canSt, Bool.and_eq_true] at hc; exact hc.1
  obtain ⟨-, -, -, c0, c1, c2, -, cv, -, -, -, -⟩ := right_in hr
  have hn := now_len hr 0
  obtain ⟨h1, h2⟩ := storeOf_size m (loadOf m v cell 0 true).2 cell x true c0 c1 hn
  exact ⟨by show (storeOf m (loadOf m v cell 0 true).2 cell x true).1.length + _ ≤ _; simp only [swapOf]; omega, by show (storeOf m (loadOf m v cell 0 true).2 cell x true).2.length ≤ _; omega⟩
theorem wsum_le {α : Type} (wt w' : α → Nat) (m : Nat) : ∀ xs : List α, (∀ x ∈ xs, wt x ≤ m + w' x) → Marks.wsum wt xs ≤ m * xs.length + total w' xs
  | [], _ => by simp [Marks.wsum]
  | x :: xs, h => by
    have h1 := h x List.mem_cons_self
    have h2 := wsum_le wt w' m xs (fun y hy => h y (List.mem_cons_of_mem _ hy))
    rw [Marks.wsum, total, List.length_cons, Nat.mul_add]
    omega
theorem wsum_one {α : Type} : ∀ xs : List α, Marks.wsum (fun _ => 1) xs = xs.length
  | [] => rfl
  | x :: xs => by rw [Marks.wsum, wsum_one xs, List.length_cons]; omega
theorem Ev.if_le {α : Type} {c : Prop} [Decidable c] {g : Nat → Option α} {r : α} (h : c) (k : Ev g r) : Ev (fun n => if c then g n else none) r := by simp only [if_pos h]; exact k
theorem wsum_writes (xs : List S43) : Marks.wsum wt43 xs ≤ 1 * xs.length + total wiWrite xs := wsum_le _ _ 1 xs (fun x _ => by simp only [wt43, wsum_one, wiWrite]; omega)
theorem wsum_mem (m : List (List S43)) : Marks.wsum (Marks.wsum wt43) m ≤ 1 * m.length + total wiWriteS m := wsum_le _ _ 1 m (fun x _ => by have := wsum_writes x; simp only [wiWriteS]; omega)
theorem eqWrite_big (a_0 : Int) (a_1 : (List Int)) (h : a_1.length ≤ 1099511627776) : Ev (fun k => laws_eqWrite.f k a_0 a_1 a_0 a_1) true := by
  simp only [laws_eqWrite.f, eq_self, if_true, bne_self_eq_false, Bool.false_eq_true, if_false]
  refine Ev.bind (eqIntS_self a_1 (by omega)) ?_
  try simp only [eq_self, if_true, bne_self_eq_false, Bool.false_eq_true, if_false]
  exact Ev.now _
theorem eqWriteS_big (xs : (List S43)) (h : (xs.length + total wiWrite xs) ≤ 1099511627776) : Ev (fun k => laws_eqWriteS.f k xs xs) true := by
  have rd_e : ∀ (j : Nat) (hj : j < xs.length), rd_T43 xs (j : Int) = xs[j] := fun j hj => by simp [rd_T43, List.getD_eq_getElem?_getD, hj]
  have key := yes_loop (L := fun j k => laws_eqWriteS.l0 k xs xs (j : Int)) xs.length true (Ev.one fun k => by simp only [laws_eqWriteS.l0]; rw [if_neg (by omega)])
    (fun j hj ih => by
      refine Ev.step (fun k => by simp only [laws_eqWriteS.l0]; rw [if_pos (by omega), if_pos (by omega), if_pos (by omega), rd_e j hj]) (Ev.bind (eqWrite_big (xs[j].f0) (xs[j].f1) (by have := total_mem wiWrite (List.getElem_mem hj); have h2 : xs[j].f1.length = wiWrite xs[j] := rfl; omega)) ?_)
      refine Ev.ite_pos rfl ?_
      rw [wrapS hj (by omega)]
      exact ih)
  refine Ev.congr (fun k => ?_) key
  unfold laws_eqWriteS.f
  rw [if_pos rfl]
  rfl
theorem eqWriteSS_big (xs : (List (List S43))) (h : (xs.length + total wiWriteS xs) ≤ 1099511627776) : Ev (fun k => laws_eqWriteSS.f k xs xs) true := by
  have rd_e : ∀ (j : Nat) (hj : j < xs.length), rd_L3 xs (j : Int) = xs[j] := fun j hj => by simp [rd_L3, List.getD_eq_getElem?_getD, hj]
  have key := yes_loop (L := fun j k => laws_eqWriteSS.l0 k xs xs (j : Int)) xs.length true (Ev.one fun k => by simp only [laws_eqWriteSS.l0]; rw [if_neg (by omega)])
    (fun j hj ih => by
      refine Ev.step (fun k => by simp only [laws_eqWriteSS.l0]; rw [if_pos (by omega), if_pos (by omega), if_pos (by omega), rd_e j hj]) (Ev.bind (eqWriteS_big xs[j] (by have := total_mem wiWriteS (List.getElem_mem hj); have h2 : (xs[j].length + total wiWrite xs[j]) = wiWriteS xs[j] := rfl; omega)) ?_)
      refine Ev.ite_pos rfl ?_
      rw [wrapS hj (by omega)]
      exact ih)
  refine Ev.congr (fun k => ?_) key
  unfold laws_eqWriteSS.f
  rw [if_pos rfl]
  rfl
theorem eqMemory_big (a_0 : (List (List S43))) (h : (a_0.length + total wiWriteS a_0) ≤ 1099511627776) : Ev (fun k => laws_eqMemory.f k a_0 a_0) true := by
  simp only [laws_eqMemory.f, eq_self, if_true, bne_self_eq_false, Bool.false_eq_true, if_false]
  refine Ev.bind (eqWriteSS_big a_0 h) ?_
  try simp only [eq_self, if_true, bne_self_eq_false, Bool.false_eq_true, if_false]
  exact Ev.now _
theorem FnExactSwap (x0_0 : (List (List S139))) (x1 : (List Int)) (x2 : Int) (x3 : Int) (ok0 : (x0_0.length ≤ maxLen ∧ ∀ z ∈ x0_0, (z.length ≤ maxLen ∧ ∀ z' ∈ z, (((Lit.int .i64 z'.f0).wf = true) ∧ (z'.f1.length ≤ maxLen ∧ ∀ z'' ∈ z'.f1, ((Lit.int .i64 z'').wf = true)))))) (ok1 : (x1.length ≤ maxLen ∧ ∀ z ∈ x1, ((Lit.int .i64 z).wf = true))) (ok2 : ((Lit.int .i64 x2).wf = true)) (ok3 : ((Lit.int .i64 x3).wf = true)) : ∃ k, laws_FnExactSwap.f k x0_0 x1 x2 x3 = some true := by
  have hn : x1.length ≤ 9223372036854775807 := by have := ok1.1; unfold maxLen at this; omega
  refine Ev.rounds (g := fun k => laws_FnExactSwap.f k x0_0 x1 x2 x3) ?_
  simp only [laws_FnExactSwap.f]
  by_cases hc : (x1.length : Int) > 1048576
  · exact Ev.ite_pos hc (Ev.now _)
  refine Ev.ite_neg hc ?_
  refine Ev.bind (szMemory_ev x0_0 1048576 (by omega) (by omega) ⟨(by have := ((ok0)).1; unfold maxLen at this; omega), fun x0_ h0_ => ⟨(by have := (((ok0)).2 x0_ h0_).1; unfold maxLen at this; omega), fun x1_ h1_ => (by have := (((((ok0)).2 x0_ h0_).2 x1_ h1_).2).1; unfold maxLen at this; omega)⟩⟩) ?_
  by_cases h : ((x0_0.length + total wlWriteS x0_0 : Nat) : Int) ≤ 1048576
  case neg => rw [left?_no h]; exact Ev.ite_pos (by omega) (Ev.now _)
  rw [left?_yes h]
  refine Ev.ite_neg (by omega) ?_
  have hs := small_of x0_0 (by omega)
  have he := eq_small x0_0 (by omega)
  have hto := toMemory_ev x0_0 (by omega)
  have hti := toIntS_ev x1 (by omega)
  obtain ⟨z1, z2⟩ := swap_size (x0_0.map cvWriteS) x1 x2 x3
  have hw1 := wsum_mem (x0_0.map cvWriteS)
  have hw2 := wsum_mem (swapAll (x0_0.map cvWriteS) x1 x2 x3).1
  have hg := eqMemory_big (swapAll (x0_0.map cvWriteS) x1 x2 x3).1 (by omega)
  have hv := eqIntS_self (swapAll (x0_0.map cvWriteS) x1 x2 x3).2.1 (by omega)
  refine Ev.bind hto ?_
  refine Ev.bind hti ?_
  refine Ev.bind (spec_Swap_ev _ hs x1 (by omega) x2 x3) ?_
  refine Ev.bind hto ?_
  refine Ev.bind hti ?_
  refine Ev.bind (impl_Swap_ev _ hs x1 (by omega) x2 x3) ?_
  refine Ev.ite_pos rfl ?_
  refine Ev.bind hg (Ev.ite_pos rfl ?_)
  refine Ev.bind hv (Ev.ite_pos rfl ?_)
  refine Ev.bind hto ?_
  refine Ev.bind (eqMemory_big _ (by omega)) (Ev.ite_pos rfl ?_)
  refine Ev.bind hti ?_
  refine Ev.bind (eqIntS_self _ (by omega)) (Ev.ite_pos rfl ?_)
  refine Ev.if_le (by omega) ?_
  refine Ev.if_le (by rw [wsum_one]; omega) ?_
  refine Ev.bind hg (Ev.ite_pos rfl ?_)
  refine Ev.bind hv (Ev.ite_pos rfl ?_)
  refine Ev.if_le (by omega) ?_
  refine Ev.if_le (by rw [wsum_one]; omega) ?_
  refine Ev.bind hto ?_
  refine Ev.bind hti ?_
  refine Ev.bind (impl_Swap_ev _ hs x1 (by omega) x2 x3) ?_
  refine Ev.ite_pos rfl ?_
  refine Ev.bind hg (Ev.ite_pos rfl ?_)
  refine Ev.bind hv (Ev.ite_pos rfl ?_)
  exact Ev.now _
end Go.Proofs.Ythbcnakmnbilhaa.Pure
namespace Go.Proofs.Ythbcnakmnbilhaa.Rd
open Go.RowKit Go.Proofs.YthbcnakmnbilhaaW.PrintWords Go.ChangeShapes Go.WideShapes
set_option linter.unusedVariables false
def Opens {α : Type} (P : Program) (t : TypeId) (d : Kd α) (ok : α → Prop) : Prop :=
  ∀ (H : Type) (enc : TypeId × Value → H) (w : World) (base : Nat) (spare : Nat → Bool) (held : Bool) (fuel : Nat) (cs : List Value) (x : DataW H × List MemPlace),
    DataW.trod enc P w base spare held fuel t cs = some x → ∃ y, d.K w y cs ∧ ok y
theorem Opens.int {P : Program} {t : TypeId} {k : IntKind} (ht : P.underlying t = some (.int k)) : Opens P t (Kd.int k) (fun n => (Lit.int k n).wf = true) := by
  intro H enc w base spare held fuel cs x h
  obtain ⟨n, rfl, _, hw⟩ := DataW.trod_int ht h
  exact ⟨n, rfl, hw⟩
theorem Opens.bool {P : Program} {t : TypeId} (ht : P.underlying t = some .bool) : Opens P t Kd.bool (fun _ => True) := by
  intro H enc w base spare held fuel cs x h
  obtain ⟨n, rfl, _⟩ := DataW.trod_bool ht h
  exact ⟨n, rfl, trivial⟩
theorem Opens.weaken {α : Type} {P : Program} {t : TypeId} {d : Kd α} {ok ok' : α → Prop} (h : Opens P t d ok) (hk : ∀ x, ok x → ok' x) : Opens P t d ok' := by
  intro H enc w base spare held fuel cs x hx
  obtain ⟨y, hy, o⟩ := h H enc w base spare held fuel cs x hx
  exact ⟨y, hy, hk y o⟩
theorem list_of {α : Type} {Q : Nat → α → Prop} : ∀ n : Nat, (∀ i, i < n → ∃ y, Q i y) → ∃ ys : List α, ys.length = n ∧ ∀ i y, ys[i]? = some y → Q i y := by
  intro n
  induction n with
  | zero => exact fun _ => ⟨[], rfl, fun i y h => by simp at h⟩
  | succ n ih =>
    intro h
    obtain ⟨ys, hl, hq⟩ := ih (fun i hi => h i (by omega))
    obtain ⟨y, hy⟩ := h n (by omega)
    refine ⟨ys ++ [y], by simp [hl], fun i z hz => ?_⟩
    rcases Nat.lt_or_ge i ys.length with hi | hi
    · rw [List.getElem?_append_left hi] at hz
      exact hq i z hz
    · rw [List.getElem?_append_right hi] at hz
      have h0 : i - ys.length = 0 := by
        have := (List.getElem?_eq_some_iff.1 hz).1
        simp at this
        omega
      rw [h0] at hz
      simp at hz
      subst hz
      have : i = n := by omega
      rw [this]
      exact hy
theorem Opens.slice {α : Type} {P : Program} {t e : TypeId} (q : Nat) {d : Kd α} {ok : α → Prop} (ht : P.underlying t = some (.slice e)) (hs : P.cellsOf e = d.sz) (he : Opens P e d ok) :
    Opens P t (Kd.slice q d) (fun xs => xs.length ≤ maxLen ∧ ∀ x ∈ xs, ok x) := by
  intro H enc w base spare held fuel cs x h
  rcases DataW.trod_slice ht h with ⟨rfl, _⟩ | ⟨a, len, cap, elems, rest, n, _, rfl, _, _, hl, hm, hlen, hel, _, _⟩
  · exact ⟨[], ⟨none, 0, rfl, Nat.le_refl _, rfl, by simp, fun hp => absurd hp (by simp)⟩, by simp, by simp⟩
  · have each : ∀ i, i < len → ∃ y, ∃ c, w.cells? base (a.add (i * d.sz)) d.sz = some c ∧ d.K w y c ∧ ok y := by
      intro i hi
      have h1 := hel i hi
      rw [List.getElem?_eq_getElem (by omega), Option.bind_eq_some_iff, hs] at h1
      obtain ⟨c, hc, hx⟩ := h1
      obtain ⟨y, hy, ho⟩ := he H enc w base spare held n c _ hx
      exact ⟨y, c, hc, hy, ho⟩
    obtain ⟨ys, hyl, hq⟩ := list_of len each
    have hm' : len ≤ 9223372036854775807 := by unfold maxLen at hm; omega
    refine ⟨ys, ⟨some a, cap, by rw [hyl], by omega, rfl, by omega, fun _ => ⟨a, rfl, fun j p hj => ?_⟩⟩, by omega, fun y hy => ?_⟩
    · obtain ⟨c, hc, hk, _⟩ := hq j p hj
      obtain ⟨_, hcl, hcell⟩ := World.cells?_some hc
      refine ⟨c, hcl, hk, fun i u hu => ?_⟩
      have hi : i < d.sz := by
        have := (List.getElem?_eq_some_iff.1 hu).1
        omega
      rw [← Addr.add_add, hcell i hi, hu]
    · obtain ⟨i, hi⟩ := List.getElem?_of_mem hy
      obtain ⟨c, _, _, ho⟩ := hq i y hi
      exact ho
def OpensAt {α : Type} (P : Program) (fs : List Field) (off : Nat) (d : Kd α) (ok : α → Prop) : Prop :=
  ∀ (H : Type) (enc : TypeId × Value → H) (w : World) (base : Nat) (spare : Nat → Bool) (held : Bool) (n : Nat) (cs : List Value), cs.length = off + d.sz →
    (∀ f ∈ fs, ∃ y, DataW.trod enc P w base spare held n f.type ((cs.drop f.offset).take (P.cellsOf f.type)) = some y) → ∃ y, d.K w y (cs.drop off) ∧ ok y
theorem OpensAt.one {α : Type} {P : Program} {f : Field} {off : Nat} {d : Kd α} {ok : α → Prop} (ho : f.offset = off) (hs : P.cellsOf f.type = d.sz) (h : Opens P f.type d ok) : OpensAt P [f] off d ok := by
  intro H enc w base spare held n cs hl hf
  obtain ⟨x, hx⟩ := hf f (by simp)
  rw [ho, hs, List.take_of_length_le (by simp; omega)] at hx
  exact h _ _ _ _ _ _ _ _ _ hx
theorem OpensAt.cons {α β : Type} {P : Program} {f : Field} {fs : List Field} {off : Nat} {a : Kd α} {b : Kd β} {oka : α → Prop} {okb : β → Prop} (ho : f.offset = off) (hs : P.cellsOf f.type = a.sz) (h : Opens P f.type a oka)
    (hr : OpensAt P fs (off + a.sz) b okb) : OpensAt P (f :: fs) off (Kd.pair a b) (fun x => oka x.1 ∧ okb x.2) := by
  intro H enc w base spare held n cs hl hf
  obtain ⟨x, hx⟩ := hf f (by simp)
  rw [ho, hs] at hx
  obtain ⟨y, hy, oy⟩ := h _ _ _ _ _ _ _ _ _ hx
  have hl' : cs.length = (off + a.sz) + b.sz := by rw [hl]; show off + (a.sz + b.sz) = _; omega
  obtain ⟨z, hz, oz⟩ := hr H enc w base spare held n cs hl' (fun g hg => hf g (by simp [hg]))
  refine ⟨(y, z), ⟨_, _, ?_, hy, hz⟩, oy, oz⟩
  rw [← List.drop_drop]
  exact (List.take_append_drop _ _).symm
theorem Opens.struct {α : Type} {P : Program} {t : TypeId} {fs : List Field} {d : Kd α} {ok : α → Prop} (ht : P.underlying t = some (.struct (List.toArray fs))) (hs : P.cellsOf t = d.sz) (h : OpensAt P fs 0 d ok) : Opens P t d ok := by
  intro H enc w base spare held fuel cs x hx
  obtain ⟨xs, n, _, _, hl, hlen, hf⟩ := DataW.trod_struct ht hx
  obtain ⟨y, hy, oy⟩ := h H enc w base spare held n cs (by omega) (fun f hm => by
    obtain ⟨i, hi⟩ := List.getElem?_of_mem hm
    have hi' : (List.toArray fs)[i]? = some f := by simpa using hi
    have h1 := hf i f hi'
    have hlt : i < xs.length := by
      have := (Array.getElem?_eq_some_iff.1 hi').1
      omega
    rw [List.getElem?_eq_getElem hlt] at h1
    exact ⟨_, h1⟩)
  exact ⟨y, by simpa using hy, oy⟩
theorem Opens.iso {α β : Type} {P : Program} {t : TypeId} {d : Kd α} {ok : α → Prop} (f : β → α) (g : α → β) (hg : ∀ x, f (g x) = x) (h : Opens P t d ok) : Opens P t (Kd.iso d f) (fun y => ok (f y)) := by
  intro H enc w base spare held fuel cs x hx
  obtain ⟨y, hy, o⟩ := h H enc w base spare held fuel cs x hx
  refine ⟨g y, ?_, ?_⟩
  · show d.K w (f (g y)) cs
    rw [hg]
    exact hy
  · show ok (f (g y))
    rw [hg]
    exact o
theorem Opens.at_slice {α : Type} {P : Program} {t : TypeId} {q : Nat} {d : Kd α} {ok : List α → Prop} (h : Opens P t (Kd.slice q d) ok) {H : Type} {enc : TypeId × Value → H} {w : World} {base : Nat} {spare : Nat → Bool} {held : Bool} {v : Value} {x : DataW H} {ps : List MemPlace}
    {e : TypeId} {r : Reach} {b0 : Nat} (hu : P.underlying t = some (.slice e)) (hv : Value.okWide P w r b0 t v) (hx : DataW.Trod enc P w base spare held t v x ps) : ∃ xs A c, v = .slice A xs.length c ∧ xs.length ≤ c ∧ d.C w A xs.length xs ∧ ok xs := by
  obtain ⟨a, len, cap, rfl⟩ := okWide_slice hu hv
  obtain ⟨fuel, hf⟩ := hx
  obtain ⟨xs, ⟨A, c, hcs, hl, hC⟩, o⟩ := h _ _ _ _ _ _ _ _ _ hf
  refine ⟨xs, A, c, ?_, hl, hC, o⟩
  simpa [Value.cells] using hcs
theorem Opens.at_struct {α : Type} {P : Program} {t : TypeId} {d : Kd α} {ok : α → Prop} (h : Opens P t d ok) {H : Type} {enc : TypeId × Value → H} {w : World} {base : Nat} {spare : Nat → Bool} {held : Bool} {v : Value} {x : DataW H} {ps : List MemPlace}
    {fs : Array Field} {r : Reach} {b0 : Nat} (hu : P.underlying t = some (.struct fs)) (hv : Value.okWide P w r b0 t v) (hx : DataW.Trod enc P w base spare held t v x ps) : ∃ y cs, v = .agg (List.toArray cs) ∧ d.K w y cs ∧ ok y := by
  obtain ⟨cs, rfl, _⟩ := okWide_struct hu hv
  obtain ⟨fuel, hf⟩ := hx
  obtain ⟨y, hK, o⟩ := h _ _ _ _ _ _ _ _ _ hf
  exact ⟨y, cs.toList, by simp, by simpa [Value.cells] using hK, o⟩
end Go.Proofs.Ythbcnakmnbilhaa.Rd
