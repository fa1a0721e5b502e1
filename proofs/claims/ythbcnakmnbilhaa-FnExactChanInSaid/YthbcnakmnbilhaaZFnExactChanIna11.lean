/- A part of the proof that the law FnExactChanIn holds for every input: the words, functions and walks that its row needs, without a condition of their own. -/
import Derived.ProofKit
import Derived.DataElems
import Derived.ChangeArms
import Derived.SizedLaws
import Derived.Test.YthbcnakmnbilhaaZFnExactChanIna0
import Derived.Test.YthbcnakmnbilhaaZFnExactChanIna10
namespace Go.Proofs.Ythbcnakmnbilhaa.Lp
open Go.RowKit Go.Proofs.YthbcnakmnbilhaaW.PrintWords
set_option linter.unusedVariables false
set_option linter.unusedSimpArgs false
theorem wrapS {j n : Nat} (h : j < n) (hn : n ≤ 9223372036854775807) : wrap64 ((j : Int) + 1) = ((j + 1 : Nat) : Int) := by
  unfold wrap64; omega
theorem wrap_in {n : Int} (h0 : -9223372036854775808 ≤ n) (h1 : n ≤ 9223372036854775807) : wrap64 n = n := by
  unfold wrap64; omega
theorem rd_get {xs : List Int} {j : Nat} (h : j < xs.length) : rd xs (j : Int) = xs[j] := by simp [rd, List.getD_eq_getElem?_getD, h]
theorem count_up {ρ : Type} {L : Nat → Nat → Option ρ} {R : Nat → ρ} {n : Nat} (hend : Ev (L n) (R n)) (hstep : ∀ j, j < n → Ev (L (j + 1)) (R (j + 1)) → Ev (L j) (R j)) : ∀ j, j ≤ n → Ev (L j) (R j) := by
  have key : ∀ d j, j + d = n → Ev (L j) (R j) := by
    intro d
    induction d with
    | zero => intro j hj; obtain rfl : j = n := by omega
              exact hend
    | succ d ih => intro j hj; exact hstep j (by omega) (ih (j + 1) (by omega))
  exact fun j hj => key (n - j) j (by omega)
theorem Ev.one {α : Type} {g : Nat → Option α} {r : α} (h : ∀ k, g (k + 1) = some r) : Ev g r := ⟨1, fun k hk => by
  obtain ⟨m, rfl⟩ : ∃ m, k = m + 1 := ⟨k - 1, by omega⟩
  exact h m⟩
theorem Ev.all {α : Type} {g : Nat → Option α} {r : α} (h : ∀ k, g k = some r) : Ev g r := ⟨0, fun k _ => h k⟩
theorem fill_set {α : Type} (l : List α) (z : α) (j : Nat) (h : j < l.length) (x : α) (hx : x = l[j]) : (l.take j ++ List.replicate (l.length - j) z).set j x = l.take (j + 1) ++ List.replicate (l.length - (j + 1)) z := by
  subst hx
  rw [show l.length - j = (l.length - (j + 1)) + 1 by omega, List.replicate_succ, List.set_append_right _ _ (by simp; omega), List.length_take, show j - min j l.length = 0 by omega, List.set_cons_zero, List.take_succ_eq_append_getElem h, List.append_assoc]
  rfl
def agree {α : Type} [DecidableEq α] (a b : List α) (j : Nat) : Bool := decide (a.drop j = b.drop j)
theorem agree_step {α : Type} [DecidableEq α] {a b : List α} {j : Nat} (ha : j < a.length) (hb : j < b.length) (h : a[j] = b[j]) : agree a b j = agree a b (j + 1) := by
  unfold agree
  have e1 := List.drop_eq_getElem_cons ha
  have e2 := List.drop_eq_getElem_cons hb
  rw [decide_eq_decide, e1, e2, h, List.cons.injEq]
  exact ⟨fun c => c.2, fun c => ⟨rfl, c⟩⟩
theorem agree_no {α : Type} [DecidableEq α] {a b : List α} {j : Nat} (ha : j < a.length) (hb : j < b.length) (h : ¬ a[j] = b[j]) : agree a b j = false := by
  unfold agree
  have e1 := List.drop_eq_getElem_cons ha
  have e2 := List.drop_eq_getElem_cons hb
  rw [decide_eq_false_iff_not, e1, e2]
  intro c
  injection c with c1
  exact h c1
theorem agree_end {α : Type} [DecidableEq α] {a b : List α} (h : a.length = b.length) : agree a b a.length = true := by
  unfold agree
  simp [h]
def allFrom {α : Type} (p : α → Bool) (xs : List α) (j : Nat) : Bool := (xs.drop j).all p
theorem allFrom_step {α : Type} {p : α → Bool} {xs : List α} {j : Nat} (h : j < xs.length) : allFrom p xs j = (p xs[j] && allFrom p xs (j + 1)) := by
  unfold allFrom
  rw [List.drop_eq_getElem_cons h, List.all_cons]
theorem allFrom_end {α : Type} {p : α → Bool} (xs : List α) : allFrom p xs xs.length = true := by simp [allFrom]
theorem allFrom_zero {α : Type} (p : α → Bool) (xs : List α) : allFrom p xs 0 = xs.all p := rfl
def total {α : Type} (w : α → Nat) : List α → Nat
  | [] => 0
  | x :: xs => w x + total w xs
theorem total_drop {α : Type} (w : α → Nat) {xs : List α} {j : Nat} (h : j < xs.length) : total w (xs.drop j) = w xs[j] + total w (xs.drop (j + 1)) := by
  rw [List.drop_eq_getElem_cons h, total]
theorem total_mem {α : Type} (w : α → Nat) : ∀ {xs : List α} {x : α}, x ∈ xs → w x ≤ total w xs
  | y :: xs, x, h => by
    rcases List.mem_cons.1 h with rfl | h
    · rw [total]; omega
    · have := total_mem w h
      rw [total]; omega
def left? (t : Nat) (a : Int) : Int := if (t : Int) ≤ a then a - (t : Int) else -1
theorem sz_loop {α : Type} {L : Nat → Int → Nat → Option Int} (xs : List α) (w : α → Nat) (B : Int) (hend : ∀ a, Ev (L xs.length a) a)
    (hyes : ∀ j (h : j < xs.length) a, a ≤ B → (w xs[j] : Int) ≤ a → ∀ r, Ev (L (j + 1) (a - (w xs[j] : Int))) r → Ev (L j a) r)
    (hno : ∀ j (h : j < xs.length) a, 0 ≤ a → a ≤ B → a < (w xs[j] : Int) → Ev (L j a) (-1)) : ∀ a, 0 ≤ a → a ≤ B → Ev (L 0 a) (left? (total w xs) a) := by
  have key : ∀ d j, j + d = xs.length → ∀ a, 0 ≤ a → a ≤ B → Ev (L j a) (left? (total w (xs.drop j)) a) := by
    intro d
    induction d with
    | zero =>
      intro j hj a h0 hB
      obtain rfl : j = xs.length := by omega
      rw [List.drop_length, total, left?, if_pos (by omega), show a - ((0 : Nat) : Int) = a by omega]
      exact hend a
    | succ d ih =>
      intro j hj a h0 hB
      have h : j < xs.length := by omega
      rw [total_drop w h]
      by_cases hw : (w xs[j] : Int) ≤ a
      · refine hyes j h a hB hw _ ?_
        have := ih (j + 1) (by omega) (a - (w xs[j] : Int)) (by omega) (by omega)
        unfold left? at this ⊢
        by_cases c : (total w (xs.drop (j + 1)) : Int) ≤ a - (w xs[j] : Int)
        · rw [if_pos c] at this
          rw [if_pos (by omega), show a - ((w xs[j] + total w (xs.drop (j + 1)) : Nat) : Int) = a - (w xs[j] : Int) - (total w (xs.drop (j + 1)) : Int) by omega]
          exact this
        · rw [if_neg c] at this
          rw [if_neg (by omega)]
          exact this
      · rw [left?, if_neg (by omega)]
        exact hno j h a h0 hB (by omega)
  exact fun a h0 hB => by simpa using key xs.length 0 (by omega) a h0 hB
theorem left?_yes {t : Nat} {a : Int} (h : (t : Int) ≤ a) : left? t a = a - (t : Int) := if_pos h
theorem left?_no {t : Nat} {a : Int} (h : ¬ (t : Int) ≤ a) : left? t a = -1 := if_neg h
theorem left?_add {m t : Nat} {a : Int} (h : (m : Int) ≤ a) : left? t (a - (m : Int)) = left? (m + t) a := by
  unfold left?
  by_cases c : (t : Int) ≤ a - (m : Int)
  · rw [if_pos c, if_pos (by omega)]; omega
  · rw [if_neg c, if_neg (by omega)]
theorem Ev.val {α : Type} {g : Nat → Option α} {r r' : α} (h : r = r') (k : Ev g r) : Ev g r' := h ▸ k
theorem Ev.ite_pos {α : Type} {c : Prop} [Decidable c] {g f : Nat → Option α} {r : α} (h : c) (k : Ev g r) : Ev (fun n => if c then g n else f n) r := by simp only [if_pos h]; exact k
theorem Ev.ite_neg {α : Type} {c : Prop} [Decidable c] {g f : Nat → Option α} {r : α} (h : ¬ c) (k : Ev f r) : Ev (fun n => if c then g n else f n) r := by simp only [if_neg h]; exact k
theorem total_map {α β : Type} (w : α → Nat) (w' : β → Nat) (c : α → β) (h : ∀ x, w' (c x) = w x) : ∀ xs : List α, total w' (xs.map c) = total w xs
  | [] => rfl
  | x :: xs => by rw [List.map_cons, total, total, h, total_map w w' c h xs]
theorem to_loop {α β : Type} {L : Nat → List β → Nat → Option (List β)} (xs : List α) (c : α → β) (z : β) (hend : ∀ ys, ys.length = xs.length → Ev (L xs.length ys) ys)
    (hstep : ∀ j (h : j < xs.length) ys, ys.length = xs.length → ∀ r, Ev (L (j + 1) (ys.set j (c xs[j]))) r → Ev (L j ys) r) : Ev (L 0 (List.replicate xs.length z)) (xs.map c) := by
  have key : ∀ d j, j + d = xs.length → Ev (L j ((xs.map c).take j ++ List.replicate (xs.length - j) z)) (xs.map c) := by
    intro d
    induction d with
    | zero =>
      intro j hj
      obtain rfl : j = xs.length := by omega
      have := hend (xs.map c) (by simp)
      rw [Nat.sub_self, List.replicate_zero, List.append_nil, List.take_of_length_le (by simp)]
      exact this
    | succ d ih =>
      intro j hj
      have h : j < xs.length := by omega
      refine hstep j h _ (by simp; omega) _ ?_
      have h2 := fill_set (xs.map c) z j (by simpa using h) (c xs[j]) (by simp)
      rw [List.length_map] at h2
      rw [h2]
      exact ih (j + 1) (by omega)
  simpa using key xs.length 0 (by omega)
theorem yes_loop {ρ : Type} {L : Nat → Nat → Option ρ} (n : Nat) (r : ρ) (hend : Ev (L n) r) (hstep : ∀ j, j < n → Ev (L (j + 1)) r → Ev (L j) r) : Ev (L 0) r :=
  count_up (R := fun _ => r) hend hstep 0 (Nat.zero_le _)
theorem all_loop {α : Type} {L : Nat → Nat → Option Bool} (xs : List α) (p : α → Bool) {b : Bool} (hend : Ev (L xs.length) b) (hyes : ∀ j (h : j < xs.length), p xs[j] = true → ∀ r, Ev (L (j + 1)) r → Ev (L j) r) (hno : ∀ j (h : j < xs.length), p xs[j] = false → Ev (L j) false) : Ev (L 0) (xs.all p && b) := by
  have key : ∀ d j, j + d = xs.length → Ev (L j) (allFrom p xs j && b) := by
    intro d
    induction d with
    | zero =>
      intro j hj
      obtain rfl : j = xs.length := by omega
      rw [allFrom_end, Bool.true_and]
      exact hend
    | succ d ih =>
      intro j hj
      have h : j < xs.length := by omega
      rw [allFrom_step h]
      cases e : p xs[j] with
      | true => rw [Bool.true_and]; exact hyes j h e _ (ih (j + 1) (by omega))
      | false => rw [Bool.false_and, Bool.false_and]; exact hno j h e
  have := key xs.length 0 (by omega)
  rwa [allFrom_zero] at this
theorem yes_all {α ρ : Type} {L : Nat → Nat → Option ρ} {r : ρ} (xs : List α) (p : α → Bool) (h : xs.all p = true) (hend : Ev (L xs.length) r) (hyes : ∀ j (h : j < xs.length), p xs[j] = true → Ev (L (j + 1)) r → Ev (L j) r) : Ev (L 0) r :=
  yes_loop xs.length r hend (fun j hj ih => hyes j hj (List.all_eq_true.1 h _ (List.getElem_mem hj)) ih)
theorem no_all {α ρ : Type} {L : Nat → Nat → Option ρ} {r : ρ} (xs : List α) (p : α → Bool) (h : xs.all p = false) (hyes : ∀ j (h : j < xs.length), p xs[j] = true → Ev (L (j + 1)) r → Ev (L j) r) (hno : ∀ j (h : j < xs.length), p xs[j] = false → Ev (L j) r) : Ev (L 0) r := by
  have key : ∀ d j, j + d = xs.length → allFrom p xs j = false → Ev (L j) r := by
    intro d
    induction d with
    | zero =>
      intro j hj hf
      obtain rfl : j = xs.length := by omega
      rw [allFrom_end] at hf
      cases hf
    | succ d ih =>
      intro j hj hf
      have hlt : j < xs.length := by omega
      rw [allFrom_step hlt] at hf
      cases e : p xs[j] with
      | true => rw [e, Bool.true_and] at hf; exact hyes j hlt e (ih (j + 1) (by omega) hf)
      | false => exact hno j hlt e
  exact key xs.length 0 (by omega) (by rw [allFrom_zero]; exact h)
end Go.Proofs.Ythbcnakmnbilhaa.Lp
namespace Go.Proofs.Ythbcnakmnbilhaa.Pure
open Go.RowKit Go.Proofs.Ythbcnakmnbilhaa Go.Proofs.Ythbcnakmnbilhaa.PFnExactChanIn Go.Proofs.YthbcnakmnbilhaaW.PrintWords Go.Proofs.YthbcnakmnbilhaaW.PrintLast Go.Proofs.Ythbcnakmnbilhaa.Lp
set_option linter.unusedVariables false
set_option linter.unusedSimpArgs false
theorem toIntS_ev (l : List Int) (h : l.length ≤ 35184372088832) : Ev (fun k => laws_toIntS.f k l) l := by
  have key := count_up (L := fun j k => laws_toIntS.l0 k l (l.take j ++ List.replicate (l.length - j) 0) (j : Int)) (R := fun _ => l) (n := l.length)
    (Ev.one fun k => by simp [laws_toIntS.l0])
    (fun j hj ih => Ev.step (fun k => by
      simp only [laws_toIntS.l0]
      rw [if_pos (by omega), if_pos (by omega), if_pos (by simp; omega), wrapS hj (by omega), Int.toNat_natCast, fill_set l 0 j hj _ (rd_get hj)]) ih)
  refine Ev.congr (fun k => ?_) (key 0 (Nat.zero_le _))
  unfold laws_toIntS.f
  rw [if_pos (by omega), if_pos (by simpa using h)]
  simp
theorem eqIntS_ev (a b : List Int) (h : a.length ≤ 9223372036854775807) : Ev (fun k => laws_eqIntS.f k a b) (decide (a = b)) := by
  by_cases hl : a.length = b.length
  · have key := count_up (L := fun j k => laws_eqIntS.l0 k a b (j : Int)) (R := fun j => agree a b j) (n := a.length)
      (Ev.one fun k => by simp [laws_eqIntS.l0, agree_end hl])
      (fun j hj ih => by
        by_cases e : a[j] = b[j]
        · exact Ev.step (fun k => by
            simp only [laws_eqIntS.l0]
            rw [if_pos (by omega), if_pos (by omega), if_pos (by omega), if_pos (by rw [rd_get hj, rd_get (by omega), e]), wrapS hj (by omega)]) (by rw [agree_step hj (by omega) e]; exact ih)
        · exact Ev.one fun k => by
            simp only [laws_eqIntS.l0]
            rw [if_pos (by omega), if_pos (by omega), if_pos (by omega), if_neg (by rw [rd_get hj, rd_get (by omega)]; exact e), agree_no hj (by omega) e])
    refine Ev.congr (fun k => ?_) (key 0 (Nat.zero_le _))
    unfold laws_eqIntS.f
    rw [if_pos (by omega)]
    rfl
  · refine Ev.all fun k => ?_
    unfold laws_eqIntS.f
    rw [if_neg (by omega), decide_eq_false (fun e => hl (by rw [e]))]
theorem eqIntS_self (a : List Int) (h : a.length ≤ 9223372036854775807) : Ev (fun k => laws_eqIntS.f k a a) true := by
  have := eqIntS_ev a a h
  simpa using this
def wlWrite (x : S139) : Nat := x.f1.length
def wiWrite (x : S43) : Nat := x.f1.length
def cvWrite (x : S139) : S43 := ⟨x.f0, x.f1⟩
theorem w_cvWrite (x : S139) : wiWrite (cvWrite x) = wlWrite x := rfl
def cvWriteS (xs : (List S139)) : (List S43) := xs.map cvWrite
def wlWriteS (xs : (List S139)) : Nat := (xs.length + total wlWrite xs)
def wiWriteS (xs : (List S43)) : Nat := (xs.length + total wiWrite xs)
theorem w_cvWriteS (xs : (List S139)) : wiWriteS (cvWriteS xs) = wlWriteS xs := by
  simp only [wiWriteS, wlWriteS, cvWriteS, List.length_map]
  rw [total_map wlWrite wiWrite cvWrite w_cvWrite]
theorem szIntS_ev (l : (List Int)) (a : Int) (h0 : 0 ≤ a) (hB : a ≤ 1048576) (hl : l.length ≤ 9223372036854775807) : Ev (fun k => laws_szIntS.f l a) (left? l.length a) := by
  refine Ev.all fun k => ?_
  unfold laws_szIntS.f left?
  rw [wrap_in (by omega) (by omega)]
  by_cases h : (l.length : Int) ≤ a
  · rw [if_neg (by omega), if_pos h]
  · rw [if_pos (by omega), if_neg h]
theorem szWrite_ev (a_0 : Int) (a_1 : (List Int)) (a : Int) (h0 : 0 ≤ a) (hB : a ≤ 1048576) (hfin : a_1.length ≤ 9223372036854775807) : Ev (fun k => laws_szWrite.f a_0 a_1 a) (left? (a_1.length) a) := by
  simp only [laws_szWrite.f]
  refine Ev.bind (szIntS_ev a_1 a (by omega) (by omega) hfin) ?_
  by_cases c0 : ((a_1.length : Nat) : Int) ≤ a
  case neg => rw [left?_no c0]; (try rw [left?_no (by omega)]); exact Ev.ite_pos (by omega) (Ev.now _)
  rw [left?_yes c0]
  refine Ev.ite_neg (by omega) ?_
  (try rw [left?_yes (by omega)])
  exact Ev.val (by omega) (Ev.now _)
theorem szWriteS_ev (xs : (List S139)) (a : Int) (h0 : 0 ≤ a) (hB : a ≤ 1048576) (hfin : (xs.length ≤ 9223372036854775807 ∧ ∀ y ∈ xs, y.f1.length ≤ 9223372036854775807)) : Ev (fun k => laws_szWriteS.f k xs a) (left? (xs.length + total wlWrite xs) a) := by
  obtain ⟨hl, hfin⟩ := hfin
  have rd_e : ∀ (j : Nat) (hj : j < xs.length), rd_T139 xs (j : Int) = xs[j] := fun j hj => by simp [rd_T139, List.getD_eq_getElem?_getD, hj]
  by_cases h : (xs.length : Int) ≤ a
  · have key := sz_loop (L := fun j a k => laws_szWriteS.l0 k xs a (j : Int)) xs wlWrite 1048576 (fun a => Ev.one fun k => by simp only [laws_szWriteS.l0]; rw [if_neg (by omega)])
      (fun j hj a hB hw r ih => by
        have h0 : 0 ≤ a := by omega
        have hw' : ((xs[j].f1.length : Nat) : Int) ≤ a := hw
        refine Ev.step (fun k => by simp only [laws_szWriteS.l0]; rw [if_pos (by omega), if_pos (by omega), rd_e j hj]) (Ev.bind (szWrite_ev (xs[j].f0) (xs[j].f1) a h0 hB (hfin xs[j] (List.getElem_mem hj))) ?_)
        rw [left?_yes hw', wrapS hj hl]
        exact Ev.ite_neg (by omega) ih)
      (fun j hj a h0 hB hw => by
        have hw' : ¬ ((xs[j].f1.length : Nat) : Int) ≤ a := by have : a < (wlWrite xs[j] : Int) := hw; intro c; exact absurd (show (wlWrite xs[j] : Int) ≤ a from c) (by omega)
        refine Ev.step (fun k => by simp only [laws_szWriteS.l0]; rw [if_pos (by omega), if_pos (by omega), rd_e j hj]) (Ev.bind (szWrite_ev (xs[j].f0) (xs[j].f1) a h0 hB (hfin xs[j] (List.getElem_mem hj))) ?_)
        rw [left?_no hw']
        exact Ev.ite_pos (by omega) (Ev.now _)) (a - (xs.length : Int)) (by omega) (by omega)
    rw [left?_add h] at key
    refine Ev.congr (fun k => ?_) key
    unfold laws_szWriteS.f
    rw [wrap_in (by omega) (by omega), if_neg (by omega)]
    rfl
  · refine Ev.all fun k => ?_
    unfold laws_szWriteS.f
    rw [wrap_in (by omega) (by omega), if_pos (by omega), left?_no (by omega)]
theorem szWriteSS_ev (xs : (List (List S139))) (a : Int) (h0 : 0 ≤ a) (hB : a ≤ 1048576) (hfin : (xs.length ≤ 9223372036854775807 ∧ ∀ y ∈ xs, (y.length ≤ 9223372036854775807 ∧ ∀ y' ∈ y, y'.f1.length ≤ 9223372036854775807))) : Ev (fun k => laws_szWriteSS.f k xs a) (left? (xs.length + total wlWriteS xs) a) := by
  obtain ⟨hl, hfin⟩ := hfin
  have rd_e : ∀ (j : Nat) (hj : j < xs.length), rd_L5 xs (j : Int) = xs[j] := fun j hj => by simp [rd_L5, List.getD_eq_getElem?_getD, hj]
  by_cases h : (xs.length : Int) ≤ a
  · have key := sz_loop (L := fun j a k => laws_szWriteSS.l0 k xs a (j : Int)) xs wlWriteS 1048576 (fun a => Ev.one fun k => by simp only [laws_szWriteSS.l0]; rw [if_neg (by omega)])
      (fun j hj a hB hw r ih => by
        have h0 : 0 ≤ a := by omega
        have hw' : (((xs[j].length + total wlWrite xs[j]) : Nat) : Int) ≤ a := hw
        refine Ev.step (fun k => by simp only [laws_szWriteSS.l0]; rw [if_pos (by omega), if_pos (by omega), rd_e j hj]) (Ev.bind (szWriteS_ev xs[j] a h0 hB (hfin xs[j] (List.getElem_mem hj))) ?_)
        rw [left?_yes hw', wrapS hj hl]
        exact Ev.ite_neg (by omega) ih)
      (fun j hj a h0 hB hw => by
        have hw' : ¬ (((xs[j].length + total wlWrite xs[j]) : Nat) : Int) ≤ a := by have : a < (wlWriteS xs[j] : Int) := hw; intro c; exact absurd (show (wlWriteS xs[j] : Int) ≤ a from c) (by omega)
        refine Ev.step (fun k => by simp only [laws_szWriteSS.l0]; rw [if_pos (by omega), if_pos (by omega), rd_e j hj]) (Ev.bind (szWriteS_ev xs[j] a h0 hB (hfin xs[j] (List.getElem_mem hj))) ?_)
        rw [left?_no hw']
        exact Ev.ite_pos (by omega) (Ev.now _)) (a - (xs.length : Int)) (by omega) (by omega)
    rw [left?_add h] at key
    refine Ev.congr (fun k => ?_) key
    unfold laws_szWriteSS.f
    rw [wrap_in (by omega) (by omega), if_neg (by omega)]
    rfl
  · refine Ev.all fun k => ?_
    unfold laws_szWriteSS.f
    rw [wrap_in (by omega) (by omega), if_pos (by omega), left?_no (by omega)]
theorem szMemory_ev (a_0 : (List (List S139))) (a : Int) (h0 : 0 ≤ a) (hB : a ≤ 1048576) (hfin : (a_0.length ≤ 9223372036854775807 ∧ ∀ y ∈ a_0, (y.length ≤ 9223372036854775807 ∧ ∀ y' ∈ y, y'.f1.length ≤ 9223372036854775807))) : Ev (fun k => laws_szMemory.f k a_0 a) (left? ((a_0.length + total wlWriteS a_0)) a) := by
  simp only [laws_szMemory.f]
  refine Ev.bind (szWriteSS_ev a_0 a (by omega) (by omega) hfin) ?_
  by_cases c0 : (((a_0.length + total wlWriteS a_0) : Nat) : Int) ≤ a
  case neg => rw [left?_no c0]; (try rw [left?_no (by omega)]); exact Ev.ite_pos (by omega) (Ev.now _)
  rw [left?_yes c0]
  refine Ev.ite_neg (by omega) ?_
  (try rw [left?_yes (by omega)])
  exact Ev.val (by omega) (Ev.now _)
theorem toWrite_ev (a_0 : Int) (a_1 : (List Int)) (h : a_1.length ≤ 1048576) : Ev (fun k => laws_toWrite.f k a_0 a_1) (a_0, a_1) := by
  simp only [laws_toWrite.f]
  refine Ev.bind (toIntS_ev a_1 (by omega)) ?_
  try simp only []
  exact Ev.now _
theorem toWriteS_ev (xs : (List S139)) (h : (xs.length + total wlWrite xs) ≤ 1048576) : Ev (fun k => laws_toWriteS.f k xs) (xs.map cvWrite) := by
  have rd_e : ∀ (j : Nat) (hj : j < xs.length), rd_T139 xs (j : Int) = xs[j] := fun j hj => by simp [rd_T139, List.getD_eq_getElem?_getD, hj]
  have key := to_loop (L := fun j ys k => laws_toWriteS.l0 k xs ys (j : Int)) xs cvWrite z43 (fun ys _ => Ev.one fun k => by simp only [laws_toWriteS.l0]; rw [if_neg (by omega)])
    (fun j hj ys hy r ih => by
      refine Ev.step (fun k => by simp only [laws_toWriteS.l0]; rw [if_pos (by omega), if_pos (by omega), rd_e j hj]) (Ev.bind (toWrite_ev (xs[j].f0) (xs[j].f1) (by have := total_mem wlWrite (List.getElem_mem hj); have h2 : xs[j].f1.length = wlWrite xs[j] := rfl; omega)) ?_)
      refine Ev.ite_pos (by omega) ?_
      rw [wrapS hj (by omega), Int.toNat_natCast]
      exact ih)
  refine Ev.congr (fun k => ?_) key
  unfold laws_toWriteS.f
  rw [if_pos (by omega), if_pos (by simp; omega)]
  simp only [Int.toNat_natCast]
  rfl
theorem toWriteSS_ev (xs : (List (List S139))) (h : (xs.length + total wlWriteS xs) ≤ 1048576) : Ev (fun k => laws_toWriteSS.f k xs) (xs.map cvWriteS) := by
  have rd_e : ∀ (j : Nat) (hj : j < xs.length), rd_L5 xs (j : Int) = xs[j] := fun j hj => by simp [rd_L5, List.getD_eq_getElem?_getD, hj]
  have key := to_loop (L := fun j ys k => laws_toWriteSS.l0 k xs ys (j : Int)) xs cvWriteS [] (fun ys _ => Ev.one fun k => by simp only [laws_toWriteSS.l0]; rw [if_neg (by omega)])
    (fun j hj ys hy r ih => by
      refine Ev.step (fun k => by simp only [laws_toWriteSS.l0]; rw [if_pos (by omega), if_pos (by omega), rd_e j hj]) (Ev.bind (toWriteS_ev xs[j] (by have := total_mem wlWriteS (List.getElem_mem hj); have h2 : (xs[j].length + total wlWrite xs[j]) = wlWriteS xs[j] := rfl; omega)) ?_)
      refine Ev.ite_pos (by omega) ?_
      rw [wrapS hj (by omega), Int.toNat_natCast]
      exact ih)
  refine Ev.congr (fun k => ?_) key
  unfold laws_toWriteSS.f
  rw [if_pos (by omega), if_pos (by simp; omega)]
  simp only [Int.toNat_natCast]
  rfl
theorem toMemory_ev (a_0 : (List (List S139))) (h : (a_0.length + total wlWriteS a_0) ≤ 1048576) : Ev (fun k => laws_toMemory.f k a_0) (a_0.map cvWriteS) := by
  simp only [laws_toMemory.f]
  refine Ev.bind (toWriteSS_ev a_0 h) ?_
  try simp only []
  exact Ev.now _
theorem eqWrite_self (a_0 : Int) (a_1 : (List Int)) (h : a_1.length ≤ 1048576) : Ev (fun k => laws_eqWrite.f k a_0 a_1 a_0 a_1) true := by
  simp only [laws_eqWrite.f, eq_self, if_true, bne_self_eq_false, Bool.false_eq_true, if_false]
  refine Ev.bind (eqIntS_self a_1 (by omega)) ?_
  try simp only [eq_self, if_true, bne_self_eq_false, Bool.false_eq_true, if_false]
  exact Ev.now _
theorem eqWriteS_self (xs : (List S43)) (h : (xs.length + total wiWrite xs) ≤ 1048576) : Ev (fun k => laws_eqWriteS.f k xs xs) true := by
  have rd_e : ∀ (j : Nat) (hj : j < xs.length), rd_T43 xs (j : Int) = xs[j] := fun j hj => by simp [rd_T43, List.getD_eq_getElem?_getD, hj]
  have key := yes_loop (L := fun j k => laws_eqWriteS.l0 k xs xs (j : Int)) xs.length true (Ev.one fun k => by simp only [laws_eqWriteS.l0]; rw [if_neg (by omega)])
    (fun j hj ih => by
      refine Ev.step (fun k => by simp only [laws_eqWriteS.l0]; rw [if_pos (by omega), if_pos (by omega), if_pos (by omega), rd_e j hj]) (Ev.bind (eqWrite_self (xs[j].f0) (xs[j].f1) (by have := total_mem wiWrite (List.getElem_mem hj); have h2 : xs[j].f1.length = wiWrite xs[j] := rfl; omega)) ?_)
      refine Ev.ite_pos rfl ?_
      rw [wrapS hj (by omega)]
      exact ih)
  refine Ev.congr (fun k => ?_) key
  unfold laws_eqWriteS.f
  rw [if_pos rfl]
  rfl
theorem eqWriteSS_self (xs : (List (List S43))) (h : (xs.length + total wiWriteS xs) ≤ 1048576) : Ev (fun k => laws_eqWriteSS.f k xs xs) true := by
  have rd_e : ∀ (j : Nat) (hj : j < xs.length), rd_L3 xs (j : Int) = xs[j] := fun j hj => by simp [rd_L3, List.getD_eq_getElem?_getD, hj]
  have key := yes_loop (L := fun j k => laws_eqWriteSS.l0 k xs xs (j : Int)) xs.length true (Ev.one fun k => by simp only [laws_eqWriteSS.l0]; rw [if_neg (by omega)])
    (fun j hj ih => by
      refine Ev.step (fun k => by simp only [laws_eqWriteSS.l0]; rw [if_pos (by omega), if_pos (by omega), if_pos (by omega), rd_e j hj]) (Ev.bind (eqWriteS_self xs[j] (by have := total_mem wiWriteS (List.getElem_mem hj); have h2 : (xs[j].length + total wiWrite xs[j]) = wiWriteS xs[j] := rfl; omega)) ?_)
      refine Ev.ite_pos rfl ?_
      rw [wrapS hj (by omega)]
      exact ih)
  refine Ev.congr (fun k => ?_) key
  unfold laws_eqWriteSS.f
  rw [if_pos rfl]
  rfl
theorem eqMemory_self (a_0 : (List (List S43))) (h : (a_0.length + total wiWriteS a_0) ≤ 1048576) : Ev (fun k => laws_eqMemory.f k a_0 a_0) true := by
  simp only [laws_eqMemory.f, eq_self, if_true, bne_self_eq_false, Bool.false_eq_true, if_false]
  refine Ev.bind (eqWriteSS_self a_0 h) ?_
  try simp only [eq_self, if_true, bne_self_eq_false, Bool.false_eq_true, if_false]
  exact Ev.now _
def inn (a lo hi : Int) : Bool := decide (lo ≤ a ∧ a ≤ hi)
theorem spec_l1In_eq (a lo hi : Int) : spec_l1In.f a lo hi = some (inn a lo hi) := by
  unfold spec_l1In.f inn
  by_cases h : a ≥ lo
  · rw [if_pos h]; congr 1; simp; omega
  · rw [if_neg h, decide_eq_false (by omega)]
theorem impl_within_eq (a lo hi : Int) : impl_within.f a lo hi = some (inn a lo hi) := by
  unfold impl_within.f inn
  by_cases h : a ≥ lo
  · rw [if_pos h]; congr 1; simp; omega
  · rw [if_neg h, decide_eq_false (by omega)]
def viewIn (m : List (List S43)) (v : List Int) (i : Nat) : Bool := inn (v.getD i 0) 0 (((m.getD i []).length : Int) - 1)
def viewOk (m : List (List S43)) (v : List Int) : Bool := decide (v.length = m.length) && (List.range v.length).all (viewIn m v)
theorem rd_cell (m : List (List S43)) (j : Nat) : rd_L3 m (j : Int) = m.getD j [] := by simp [rd_L3]
theorem rd_int (v : List Int) (j : Nat) : rd v (j : Int) = v.getD j 0 := by simp [rd]
def Small (m : List (List S43)) : Prop := m.length ≤ 1048576 ∧ ∀ c ∈ m, c.length ≤ 1048576 ∧ ∀ w ∈ c, w.f1.length ≤ 1048576
theorem Small.at {m : List (List S43)} (h : Small m) (j : Nat) : (m.getD j []).length ≤ 1048576 := by
  rw [List.getD_eq_getElem?_getD]
  cases e : m[j]? with
  | none => simp
  | some c => exact (h.2 c (List.mem_of_getElem? e)).1
theorem range_get {n j : Nat} (h : j < (List.range n).length) : (List.range n)[j] = j := by simp
theorem spec_ViewOk_ev (m : List (List S43)) (v : List Int) (hm : Small m) (hv : v.length ≤ 1048576) : Ev (fun k => spec_ViewOk.f k m v) (viewOk m v) := by
  by_cases hl : v.length = m.length
  · have key := all_loop (L := fun j k => spec_ViewOk.l0 k v (j : Int) m) (List.range v.length) (viewIn m v) (b := true) (Ev.one fun k => by
        simp only [spec_ViewOk.l0]
        rw [if_neg (by simp)])
      (fun j hj hp r ih => by
        rw [List.length_range] at hj
        rw [range_get] at hp
        have h1 := hm.at j
        refine Ev.step (fun k => ?_) ih
        simp only [spec_ViewOk.l0]
        rw [if_pos (by omega), if_pos (by omega), if_pos (by omega), rd_int, rd_cell, wrap_in (by omega) (by omega), spec_l1In_eq, Option.bind_some, if_pos (show inn (v.getD j 0) 0 (((m.getD j []).length : Int) - 1) = true from hp), wrapS hj (by omega)])
      (fun j hj hp => by
        rw [List.length_range] at hj
        rw [range_get] at hp
        have h1 := hm.at j
        refine Ev.one fun k => ?_
        simp only [spec_ViewOk.l0]
        rw [if_pos (by omega), if_pos (by omega), if_pos (by omega), rd_int, rd_cell, wrap_in (by omega) (by omega), spec_l1In_eq, Option.bind_some, if_neg (show ¬ inn (v.getD j 0) 0 (((m.getD j []).length : Int) - 1) = true from fun e => by have e' : viewIn m v j = true := e; rw [hp] at e'; cases e')])
    rw [Bool.and_true] at key
    refine Ev.congr (fun k => ?_) (Ev.val (by rw [viewOk, decide_eq_true hl, Bool.true_and]) key)
    unfold spec_ViewOk.f
    rw [if_pos (by omega)]
    rfl
  · refine Ev.all fun k => ?_
    unfold spec_ViewOk.f
    rw [if_neg (by omega), viewOk, decide_eq_false hl, Bool.false_and]
theorem impl_ViewOk_ev (m : List (List S43)) (v : List Int) (hm : Small m) (hv : v.length ≤ 1048576) : Ev (fun k => impl_ViewOk.f k m v) (viewOk m v) := by
  by_cases hl : v.length = m.length
  · have key := all_loop (L := fun j k => impl_ViewOk.l0 k v (v.length : Int) (j : Int) m) (List.range v.length) (viewIn m v) (b := true) (Ev.one fun k => by
        simp only [impl_ViewOk.l0]
        rw [if_neg (by simp)])
      (fun j hj hp r ih => by
        rw [List.length_range] at hj
        rw [range_get] at hp
        have h1 := hm.at j
        refine Ev.step (fun k => ?_) ih
        simp only [impl_ViewOk.l0]
        rw [if_pos (by omega), if_pos (by omega), if_pos (by omega), if_pos (by omega), rd_int, rd_cell, wrap_in (by omega) (by omega), impl_within_eq, Option.bind_some, if_pos (show inn (v.getD j 0) 0 (((m.getD j []).length : Int) - 1) = true from hp), wrapS hj (by omega)])
      (fun j hj hp => by
        rw [List.length_range] at hj
        rw [range_get] at hp
        have h1 := hm.at j
        refine Ev.one fun k => ?_
        simp only [impl_ViewOk.l0]
        rw [if_pos (by omega), if_pos (by omega), if_pos (by omega), if_pos (by omega), rd_int, rd_cell, wrap_in (by omega) (by omega), impl_within_eq, Option.bind_some, if_neg (show ¬ inn (v.getD j 0) 0 (((m.getD j []).length : Int) - 1) = true from fun e => by have e' : viewIn m v j = true := e; rw [hp] at e'; cases e')])
    rw [Bool.and_true] at key
    refine Ev.congr (fun k => ?_) (Ev.val (by rw [viewOk, decide_eq_true hl, Bool.true_and]) key)
    unfold impl_ViewOk.f
    rw [if_pos (by omega)]
    rfl
  · refine Ev.all fun k => ?_
    unfold impl_ViewOk.f
    rw [if_neg (by omega), viewOk, decide_eq_false hl, Bool.false_and]
theorem small_of (xs : List (List S139)) (h : xs.length + total wlWriteS xs ≤ 1048576) : Small (xs.map cvWriteS) := by
  refine ⟨by simp; omega, fun c hc => ?_⟩
  obtain ⟨y, hy, rfl⟩ := List.mem_map.1 hc
  have h1 := total_mem wlWriteS hy
  have h2 : wlWriteS y = y.length + total wlWrite y := rfl
  refine ⟨by simp [cvWriteS]; omega, fun w hw => ?_⟩
  obtain ⟨z, hz, rfl⟩ := List.mem_map.1 hw
  have h3 := total_mem wlWrite hz
  have h4 : wlWrite z = z.f1.length := rfl
  show z.f1.length ≤ 1048576
  omega
theorem eq_small (xs : List (List S139)) (h : xs.length + total wlWriteS xs ≤ 1048576) : (xs.map cvWriteS).length + total wiWriteS (xs.map cvWriteS) ≤ 1048576 := by
  rw [List.length_map, total_map wlWriteS wiWriteS cvWriteS w_cvWriteS]
  exact h
def cellIn (m : List (List S43)) (c : List S43) : Bool := inn (c.length : Int) 1 4000 && c.all (fun w => viewOk m w.f1)
def memOk (m : List (List S43)) : Bool := m.all (cellIn m) && decide (m.length = 24)
theorem rd_write (l : List S43) (j : Nat) (h : j < l.length) : rd_T43 l (j : Int) = l[j] := by simp [rd_T43, List.getD_eq_getElem?_getD, h]
theorem rd_cell' (m : List (List S43)) (j : Nat) (h : j < m.length) : rd_L3 m (j : Int) = m[j] := by simp [rd_L3, List.getD_eq_getElem?_getD, h]
theorem spec_MemoryOk_ev (m : List (List S43)) (hm : Small m) : Ev (fun k => spec_MemoryOk.f k m) (memOk m) := by
  have hl := hm.1
  by_cases h24 : m.length = 24
  case neg =>
    refine Ev.all fun k => ?_
    unfold spec_MemoryOk.f
    rw [if_neg (by omega), memOk, decide_eq_false h24, Bool.and_false]
  simp only [spec_MemoryOk.f]
  refine Ev.ite_pos (by omega) ?_
  refine all_loop (L := fun j k => spec_MemoryOk.l0 k (j : Int) m) m (cellIn m) ?_ (fun j hj hp r ih => ?_) (fun j hj hp => ?_)
  · refine Ev.one fun k => ?_
    simp only [spec_MemoryOk.l0]
    rw [if_neg (by omega), decide_eq_true h24]
  · have hc := hm.2 m[j] (List.getElem_mem hj)
    have h1 : inn (m[j].length : Int) 1 4000 = true := by unfold cellIn at hp; rw [Bool.and_eq_true] at hp; exact hp.1
    have h2 : m[j].all (fun w => viewOk m w.f1) = true := by unfold cellIn at hp; rw [Bool.and_eq_true] at hp; exact hp.2
    refine Ev.step (fun k => by simp only [spec_MemoryOk.l0, spec_l1In_eq, Option.bind_some]; rw [if_pos (by omega), if_pos (by omega), if_pos (by omega), rd_cell' m j hj, if_pos h1]) ?_
    refine yes_all (L := fun i k => spec_MemoryOk.l1 k (j : Int) (i : Int) m) m[j] (fun w => viewOk m w.f1) h2 ?_ (fun i hi hq ih' => ?_)
    · exact Ev.step (fun k => by simp only [spec_MemoryOk.l1]; rw [if_pos (by omega), if_pos (by omega), rd_cell' m j hj, if_neg (by omega), wrapS hj (by omega)]) ih
    · refine Ev.step (fun k => by simp only [spec_MemoryOk.l1]; rw [if_pos (by omega), if_pos (by omega), rd_cell' m j hj, if_pos (by omega), if_pos (by omega), rd_write _ i hi]) (Ev.bind (spec_ViewOk_ev m _ hm (hc.2 _ (List.getElem_mem hi))) ?_)
      refine Ev.ite_pos hq ?_
      rw [wrapS hi (by omega)]
      exact ih'
  · have hc := hm.2 m[j] (List.getElem_mem hj)
    by_cases h1 : inn (m[j].length : Int) 1 4000 = true
    · have h2 : m[j].all (fun w => viewOk m w.f1) = false := by unfold cellIn at hp; rwa [h1, Bool.true_and] at hp
      refine Ev.step (fun k => by simp only [spec_MemoryOk.l0, spec_l1In_eq, Option.bind_some]; rw [if_pos (by omega), if_pos (by omega), if_pos (by omega), rd_cell' m j hj, if_pos h1]) ?_
      refine no_all (L := fun i k => spec_MemoryOk.l1 k (j : Int) (i : Int) m) m[j] (fun w => viewOk m w.f1) h2 (fun i hi hq ih' => ?_) (fun i hi hq => ?_)
      · refine Ev.step (fun k => by simp only [spec_MemoryOk.l1]; rw [if_pos (by omega), if_pos (by omega), rd_cell' m j hj, if_pos (by omega), if_pos (by omega), rd_write _ i hi]) (Ev.bind (spec_ViewOk_ev m _ hm (hc.2 _ (List.getElem_mem hi))) ?_)
        refine Ev.ite_pos hq ?_
        rw [wrapS hi (by omega)]
        exact ih'
      · refine Ev.step (fun k => by simp only [spec_MemoryOk.l1]; rw [if_pos (by omega), if_pos (by omega), rd_cell' m j hj, if_pos (by omega), if_pos (by omega), rd_write _ i hi]) (Ev.bind (spec_ViewOk_ev m _ hm (hc.2 _ (List.getElem_mem hi))) ?_)
        exact Ev.ite_neg (by rw [hq]; simp) (Ev.now _)
    · refine Ev.one fun k => ?_
      simp only [spec_MemoryOk.l0, spec_l1In_eq, Option.bind_some]
      rw [if_pos (by omega), if_pos (by omega), if_pos (by omega), rd_cell' m j hj, if_neg h1]
theorem impl_MemoryOk_ev (m : List (List S43)) (hm : Small m) : Ev (fun k => impl_MemoryOk.f k m) (memOk m) := by
  have hl := hm.1
  refine all_loop (L := fun j k => impl_MemoryOk.l0 k m (m.length : Int) (j : Int) m) m (cellIn m) ?_ (fun j hj hp r ih => ?_) (fun j hj hp => ?_)
  · refine Ev.one fun k => ?_
    simp only [impl_MemoryOk.l0]
    rw [if_neg (by omega)]
    congr 1
    rw [Bool.eq_iff_iff]
    simp
    omega
  · have hc := hm.2 m[j] (List.getElem_mem hj)
    have h1 : inn (m[j].length : Int) 1 4000 = true := by unfold cellIn at hp; rw [Bool.and_eq_true] at hp; exact hp.1
    have h2 : m[j].all (fun w => viewOk m w.f1) = true := by unfold cellIn at hp; rw [Bool.and_eq_true] at hp; exact hp.2
    refine Ev.step (fun k => by simp only [impl_MemoryOk.l0, impl_within_eq, Option.bind_some]; rw [if_pos (by omega), if_pos (by omega), if_pos (by omega), rd_cell' m j hj, if_pos h1]) ?_
    refine yes_all (L := fun i k => impl_MemoryOk.l1 k m (m.length : Int) (j : Int) m[j] (m[j].length : Int) (i : Int) m) m[j] (fun w => viewOk m w.f1) h2 ?_ (fun i hi hq ih' => ?_)
    · exact Ev.step (fun k => by simp only [impl_MemoryOk.l1]; rw [if_neg (by omega), wrapS hj (by omega)]) ih
    · refine Ev.step (fun k => by simp only [impl_MemoryOk.l1]; rw [if_pos (by omega), if_pos (by omega), if_pos (by omega), rd_write _ i hi]) (Ev.bind (impl_ViewOk_ev m _ hm (hc.2 _ (List.getElem_mem hi))) ?_)
      refine Ev.ite_pos hq ?_
      rw [wrapS hi (by omega)]
      exact ih'
  · have hc := hm.2 m[j] (List.getElem_mem hj)
    by_cases h1 : inn (m[j].length : Int) 1 4000 = true
    · have h2 : m[j].all (fun w => viewOk m w.f1) = false := by unfold cellIn at hp; rwa [h1, Bool.true_and] at hp
      refine Ev.step (fun k => by simp only [impl_MemoryOk.l0, impl_within_eq, Option.bind_some]; rw [if_pos (by omega), if_pos (by omega), if_pos (by omega), rd_cell' m j hj, if_pos h1]) ?_
      refine no_all (L := fun i k => impl_MemoryOk.l1 k m (m.length : Int) (j : Int) m[j] (m[j].length : Int) (i : Int) m) m[j] (fun w => viewOk m w.f1) h2 (fun i hi hq ih' => ?_) (fun i hi hq => ?_)
      · refine Ev.step (fun k => by simp only [impl_MemoryOk.l1]; rw [if_pos (by omega), if_pos (by omega), if_pos (by omega), rd_write _ i hi]) (Ev.bind (impl_ViewOk_ev m _ hm (hc.2 _ (List.getElem_mem hi))) ?_)
        refine Ev.ite_pos hq ?_
        rw [wrapS hi (by omega)]
        exact ih'
      · refine Ev.step (fun k => by simp only [impl_MemoryOk.l1]; rw [if_pos (by omega), if_pos (by omega), if_pos (by omega), rd_write _ i hi]) (Ev.bind (impl_ViewOk_ev m _ hm (hc.2 _ (List.getElem_mem hi))) ?_)
        exact Ev.ite_neg (by rw [hq]; simp) (Ev.now _)
    · refine Ev.one fun k => ?_
      simp only [impl_MemoryOk.l0, impl_within_eq, Option.bind_some]
      rw [if_pos (by omega), if_pos (by omega), if_pos (by omega), rd_cell' m j hj, if_neg h1]
def capOk (c : Int) : Bool := inn c 1 4
def bs : List Int → Int
  | [] => 0
  | c :: l => c + 4 + bs l
theorem bs_append : ∀ a b : List Int, bs (a ++ b) = bs a + bs b
  | [], b => by simp [bs]
  | c :: a, b => by simp only [List.cons_append, bs, bs_append a b]; omega
theorem bs_succ {l : List Int} {j : Nat} (h : j < l.length) : bs (l.take (j + 1)) = bs (l.take j) + (l[j] + 4) := by
  rw [List.take_succ_eq_append_getElem h, bs_append]
  simp [bs]
theorem bs_bound : ∀ l : List Int, l.all capOk = true → 5 * (l.length : Int) ≤ bs l ∧ bs l ≤ 8 * (l.length : Int)
  | [], _ => by simp [bs]
  | c :: l, h => by
    rw [List.all_cons, Bool.and_eq_true] at h
    obtain ⟨h1, h2⟩ := h
    have := bs_bound l h2
    have h3 : 1 ≤ c ∧ c ≤ 4 := by simpa [capOk, inn] using h1
    simp only [bs, List.length_cons]
    omega
theorem all_take {l : List Int} (h : l.all capOk = true) (j : Nat) : (l.take j).all capOk = true := by
  rw [List.all_eq_true] at h ⊢
  exact fun x hx => h x (List.mem_of_mem_take hx)
theorem bs_take_bound {l : List Int} (h : l.all capOk = true) {j : Nat} (hj : j ≤ l.length) : 5 * (j : Int) ≤ bs (l.take j) ∧ bs (l.take j) ≤ 8 * (j : Int) := by
  have := bs_bound (l.take j) (all_take h j)
  rw [List.length_take, Nat.min_eq_left hj] at this
  exact this
theorem capOk_get {l : List Int} (h : l.all capOk = true) {j : Nat} (hj : j < l.length) : 1 ≤ l[j] ∧ l[j] ≤ 4 := by
  have := List.all_eq_true.1 h _ (List.getElem_mem hj)
  simpa [capOk, inn] using this
theorem bs_all (l : List Int) : bs (l.take l.length) = bs l := by rw [List.take_length]
def laid (l : List Int) : Bool := l.all capOk && decide (bs l ≤ 24)
def baseOf (l : List Int) (n : Int) : Int := if laid l = true ∧ 0 ≤ n ∧ n < (l.length : Int) then bs (l.take n.toNat) else -1
theorem impl_capsOk_ev (l : List Int) (h : l.length ≤ 9223372036854775807) : Ev (fun k => impl_capsOk.f k l) (l.all capOk) := by
  have key := count_up (L := fun j k => impl_capsOk.l0 k l (l.length : Int) (j : Int)) (R := fun j => allFrom capOk l j) (n := l.length)
    (Ev.one fun k => by simp [impl_capsOk.l0, allFrom_end])
    (fun j hj ih => by
      by_cases e : capOk l[j] = true
      · exact Ev.step (fun k => by
          simp only [impl_capsOk.l0]
          rw [if_pos (by omega), if_pos (by omega), if_pos (by omega), rd_get hj, impl_within_eq, Option.bind_some, show inn l[j] 1 4 = true from e, if_pos rfl, wrapS hj (by omega)]) (by rw [allFrom_step hj, e, Bool.true_and]; exact ih)
      · refine Ev.one fun k => ?_
        simp only [impl_capsOk.l0]
        rw [if_pos (by omega), if_pos (by omega), if_pos (by omega), rd_get hj, impl_within_eq, Option.bind_some, if_neg (show ¬ inn l[j] 1 4 = true from e), allFrom_step hj]
        simp [e])
  exact key 0 (Nat.zero_le _)
theorem impl_Base_ev (l : List Int) (h : l.length ≤ 1048576) (n : Int) : Ev (fun k => impl_Base.f k l n) (baseOf l n) := by
  simp only [impl_Base.f, impl_within_eq, Option.bind_some]
  rw [wrap_in (by omega) (by omega)]
  by_cases hn : 0 ≤ n ∧ n < (l.length : Int)
  · have hi : inn n 0 ((l.length : Int) - 1) = true := by simp [inn]; omega
    simp only [hi, if_true]
    refine Ev.bind (impl_capsOk_ev l (by omega)) ?_
    by_cases ha : l.all capOk = true
    · obtain ⟨m, rfl⟩ := Int.eq_ofNat_of_zero_le hn.1
      rw [ha, Bool.not_true]
      refine Ev.step (f := fun k => impl_Base.l0 k (m : Int) 0 0 l (l.length : Int) 0) (fun k => by rw [impl_Base.j0, if_neg (by simp)]) ?_
      have key := count_up (L := fun j k => impl_Base.l0 k (m : Int) (bs (l.take (min j m))) (bs (l.take j)) l (l.length : Int) (j : Int)) (R := fun _ => baseOf l (m : Int)) (n := l.length)
        (Ev.one fun k => by
          simp only [impl_Base.l0]
          rw [if_neg (by omega), bs_all, baseOf, Int.toNat_natCast, Nat.min_eq_right (by omega)]
          by_cases h24 : bs l ≤ 24
          · rw [if_neg (by omega), if_pos ⟨by simp [laid, ha, h24], hn⟩]
          · rw [if_pos (by omega), if_neg (fun c => by have := c.1; simp [laid, h24] at this)])
        (fun j hj ih => by
          have h1 := bs_take_bound ha (j := j) (by omega)
          have h2 := capOk_get ha (j := j) (by omega)
          have h3 := bs_take_bound ha (j := min j m) (by omega)
          refine Ev.step (fun k => ?_) ih
          simp only [impl_Base.l0]
          rw [if_pos (by omega), if_pos (by omega), if_pos (by omega), rd_get (by omega), wrap_in (n := l[j] + 4) (by omega) (by omega), wrap_in (n := bs (l.take j) + (l[j] + 4)) (by omega) (by omega), wrapS hj (by omega), ← bs_succ]
          by_cases hc : (j : Int) < (m : Int)
          · rw [if_pos hc, wrap_in (by omega) (by omega), Nat.min_eq_left (by omega), Nat.min_eq_left (by omega), ← bs_succ]
          · rw [if_neg hc, Nat.min_eq_right (by omega), Nat.min_eq_right (by omega)])
      exact key 0 (Nat.zero_le _)
    · rw [show l.all capOk = false by simpa using ha, Bool.not_false, baseOf, if_neg (fun c => by have := c.1; simp only [laid, Bool.and_eq_true] at this; exact ha this.1)]
      exact Ev.one fun k => by rw [impl_Base.j0, if_pos rfl]
  · have hi : inn n 0 ((l.length : Int) - 1) = false := by simp [inn]; omega
    simp only [hi, Bool.false_eq_true, if_false]
    rw [baseOf, if_neg (fun c => hn c.2)]
    exact Ev.one fun k => by rw [impl_Base.j0, if_pos rfl]
theorem spec_l9Base_ev (l : List Int) (h : l.length ≤ 1048576) (ha : l.all capOk = true) (m : Nat) (hm : m ≤ l.length) : Ev (fun k => spec_l9Base.f k l (m : Int)) (bs (l.take m)) := by
  have key := count_up (L := fun j k => spec_l9Base.l0 k l (m : Int) (bs (l.take j)) (j : Int)) (R := fun _ => bs (l.take m)) (n := m)
    (Ev.one fun k => by simp [spec_l9Base.l0])
    (fun j hj ih => by
      have h1 := bs_take_bound ha (j := j) (by omega)
      have h2 := capOk_get ha (j := j) (by omega)
      exact Ev.step (fun k => by
        simp only [spec_l9Base.l0]
        rw [if_pos (by omega), if_pos (by omega), if_pos (by omega), rd_get (by omega), wrap_in (n := bs (l.take j) + l[j]) (by omega) (by omega), wrap_in (by omega) (by omega), wrapS (n := l.length) (by omega) (by omega), show bs (l.take j) + l[j] + 4 = bs (l.take j) + (l[j] + 4) by omega, ← bs_succ]) ih)
  exact key 0 (Nat.zero_le _)
theorem spec_l9Right_ev (l : List Int) (h : l.length ≤ 1048576) : Ev (fun k => spec_l9Right.f k l) (laid l) := by
  by_cases ha : l.all capOk = true
  · have key := count_up (L := fun j k => spec_l9Right.l0 k l (j : Int)) (R := fun _ => laid l) (n := l.length)
      (by
        by_cases h24 : (l.length : Int) ≤ 24
        · refine Ev.step (f := fun k => (spec_l9Base.f k l (l.length : Int)).bind fun t111 => (some (decide (t111 ≤ 24)))) (fun k => ?_) (Ev.bind (spec_l9Base_ev l h ha l.length (Nat.le_refl _)) ?_)
          · simp only [spec_l9Right.l0]
            rw [if_neg (by omega), if_pos h24]
          · rw [bs_all]
            simp only [laid, ha, Bool.true_and]
            exact Ev.now _
        · refine Ev.one fun k => ?_
          simp only [spec_l9Right.l0]
          have := (bs_bound l ha).1
          rw [if_neg (by omega), if_neg h24, laid, decide_eq_false (by omega), Bool.and_false])
      (fun j hj ih => Ev.step (fun k => by
        simp only [spec_l9Right.l0]
        rw [if_pos (by omega), if_pos (by omega), rd_get hj, spec_l1In_eq, Option.bind_some, show inn l[j] 1 4 = true from List.all_eq_true.1 ha _ (List.getElem_mem hj), if_pos rfl, wrapS hj (by omega)]) ih)
    exact key 0 (Nat.zero_le _)
  · have hl : laid l = false := by simp [laid, ha]
    have hf : allFrom capOk l 0 = false := by rw [allFrom_zero]; simpa using ha
    have key : ∀ d j, j + d = l.length → allFrom capOk l j = false → Ev (fun k => spec_l9Right.l0 k l (j : Int)) false := by
      intro d
      induction d with
      | zero =>
        intro j hj hf
        obtain rfl : j = l.length := by omega
        rw [allFrom_end] at hf
        cases hf
      | succ d ih =>
        intro j hj hf
        rw [allFrom_step (by omega)] at hf
        by_cases e : capOk (l[j]'(by omega)) = true
        · rw [e, Bool.true_and] at hf
          exact Ev.step (fun k => by
            simp only [spec_l9Right.l0]
            rw [if_pos (by omega), if_pos (by omega), rd_get (by omega), spec_l1In_eq, Option.bind_some, show inn (l[j]'(by omega)) 1 4 = true from e, if_pos rfl, wrapS (n := l.length) (by omega) (by omega)]) (ih (j + 1) (by omega) hf)
        · refine Ev.one fun k => ?_
          simp only [spec_l9Right.l0]
          rw [if_pos (by omega), if_pos (by omega), rd_get (by omega), spec_l1In_eq, Option.bind_some, if_neg (show ¬ inn (l[j]'(by omega)) 1 4 = true from e)]
    rw [hl]
    exact key l.length 0 (by omega) hf
theorem spec_Base_ev (l : List Int) (h : l.length ≤ 1048576) (n : Int) : Ev (fun k => spec_Base.f k l n) (baseOf l n) := by
  simp only [spec_Base.f]
  refine Ev.bind (spec_l9Right_ev l h) ?_
  by_cases hl : laid l = true
  · simp only [hl, if_true, spec_l1In_eq, Option.bind_some]
    rw [wrap_in (by omega) (by omega)]
    by_cases hn : 0 ≤ n ∧ n < (l.length : Int)
    · have hi : inn n 0 ((l.length : Int) - 1) = true := by simp [inn]; omega
      have ha : l.all capOk = true := by simp only [laid, Bool.and_eq_true] at hl; exact hl.1
      simp only [hi, if_true]
      obtain ⟨m, rfl⟩ := Int.eq_ofNat_of_zero_le hn.1
      refine Ev.bind (spec_l9Base_ev l h ha m (by omega)) ?_
      rw [baseOf, if_pos ⟨hl, hn⟩, Int.toNat_natCast]
      exact Ev.now _
    · have hi : inn n 0 ((l.length : Int) - 1) = false := by simp [inn]; omega
      simp only [hi, Bool.false_eq_true, if_false]
      rw [baseOf, if_neg (fun c => hn c.2)]
      exact Ev.now _
  · simp only [hl, if_false]
    rw [baseOf, if_neg (fun c => hl c.1)]
    exact Ev.now _
def lastOf (m : List (List S43)) (b : Int) : Int := ((m.getD b.toNat []).getD ((m.getD b.toNat []).length - 1) z43).f0
theorem mem_cell {m : List (List S43)} (h : memOk m = true) {b : Int} (h0 : 0 ≤ b) (h1 : b < 24) : b < (m.length : Int) ∧ 1 ≤ (m.getD b.toNat []).length ∧ (m.getD b.toNat []).length ≤ 4000 := by
  unfold memOk at h
  simp only [Bool.and_eq_true, decide_eq_true_eq] at h
  obtain ⟨ha, hl⟩ := h
  have hj : b.toNat < m.length := by omega
  have hc := List.all_eq_true.mp ha m[b.toNat] (List.getElem_mem hj)
  unfold cellIn inn at hc
  simp only [Bool.and_eq_true, decide_eq_true_eq] at hc
  have e : m.getD b.toNat [] = m[b.toNat] := by simp [List.getD_eq_getElem?_getD, hj]
  rw [e]
  omega
theorem impl_last_eq (m : List (List S43)) (h : memOk m = true) (b : Int) (h0 : 0 ≤ b) (h1 : b < 24) : impl_Memory_last.f m b = some (lastOf m b) := by
  obtain ⟨g1, g2, g3⟩ := mem_cell h h0 h1
  have e : rd_L3 m b = m.getD b.toNat [] := rfl
  have w := wrap_in (n := ((m.getD b.toNat []).length : Int) - 1) (by omega) (by omega)
  unfold impl_Memory_last.f
  rw [if_pos h0, if_pos g1, e, w, if_pos (by omega), if_pos (by omega)]
  unfold lastOf rd_T43
  rw [show (((m.getD b.toNat []).length : Int) - 1).toNat = (m.getD b.toNat []).length - 1 by omega]
theorem spec_last_eq (m : List (List S43)) (h : memOk m = true) (b : Int) (h0 : 0 ≤ b) (h1 : b < 24) : spec_l9Last.f m b = some (lastOf m b) := by
  obtain ⟨g1, g2, g3⟩ := mem_cell h h0 h1
  have e : rd_L3 m b = m.getD b.toNat [] := rfl
  have w := wrap_in (n := ((m.getD b.toNat []).length : Int) - 1) (by omega) (by omega)
  unfold spec_l9Last.f
  rw [if_pos h0, if_pos g1, e, w, if_pos (by omega), if_pos (by omega)]
  unfold lastOf rd_T43
  rw [show (((m.getD b.toNat []).length : Int) - 1).toNat = (m.getD b.toNat []).length - 1 by omega]
theorem base_room {l : List Int} {n : Int} (h : 0 ≤ baseOf l n) : 0 ≤ n ∧ n < (l.length : Int) ∧ 1 ≤ rd l n ∧ rd l n ≤ 4 ∧ baseOf l n + 4 + rd l n ≤ 24 := by
  unfold baseOf at h ⊢
  by_cases c : laid l = true ∧ 0 ≤ n ∧ n < (l.length : Int)
  · rw [if_pos c]
    obtain ⟨hl, h0, h1⟩ := c
    unfold laid at hl
    simp only [Bool.and_eq_true, decide_eq_true_eq] at hl
    have hj : n.toNat < l.length := by omega
    have e1 := bs_append (l.take n.toNat) (l.drop n.toNat)
    rw [List.take_append_drop, List.drop_eq_getElem_cons hj] at e1
    have hd : (l.drop (n.toNat + 1)).all capOk = true := by
      rw [List.all_eq_true] at *
      exact fun x hx => hl.1 x (List.mem_of_mem_drop hx)
    have h2 := (bs_bound _ hd).1
    have h3 := capOk_get hl.1 hj
    have e2 : rd l n = l[n.toNat] := by simp [rd, List.getD_eq_getElem?_getD, hj]
    rw [e2]
    simp only [bs] at e1
    omega
  · rw [if_neg c] at h
    omega
def ringOf (m : List (List S43)) (b cap head : Int) (k : Nat) : List Int := (List.range k).map (fun (i : Nat) => lastOf m (b + 4 + Int.tmod (head + (i : Int)) cap))
theorem ring_succ (m : List (List S43)) (b cap head : Int) (k : Nat) : ringOf m b cap head (k + 1) = ringOf m b cap head k ++ [lastOf m (b + 4 + Int.tmod (head + (k : Int)) cap)] := by simp [ringOf, List.range_succ]
theorem ring_len (m : List (List S43)) (b cap head : Int) (k : Nat) : (ringOf m b cap head k).length = k := by simp [ringOf]
def chanAt (m : List (List S43)) (b cap : Int) : Int × List Int × Bool × Bool := if inn (lastOf m (b + 1)) 0 (cap - 1) = true ∧ inn (lastOf m (b + 2)) 0 cap = true ∧ inn (lastOf m (b + 3)) 0 1 = true then (cap, ringOf m b cap (lastOf m (b + 1)) (lastOf m (b + 2)).toNat, lastOf m (b + 3) == 1, true) else (0, [], false, false)
def chanInOf (m : List (List S43)) (l : List Int) (n : Int) : Int × List Int × Bool × Bool := if 0 ≤ baseOf l n then (if memOk m = true then chanAt m (baseOf l n) (rd l n) else (0, [], false, false)) else (0, [], false, false)
theorem tmod_in {a c : Int} (h0 : 0 ≤ a) (h1 : 1 ≤ c) : 0 ≤ Int.tmod a c ∧ Int.tmod a c < c := ⟨Int.tmod_nonneg c h0, Int.tmod_lt_of_pos a (by omega)⟩
theorem impl_ring_ev (m : List (List S43)) (hm : memOk m = true) (b cap head many : Int) (cl : Bool) (h0 : 0 ≤ b) (hc : 1 ≤ cap) (hc4 : cap ≤ 4) (hb : b + 4 + cap ≤ 24) (hh : 0 ≤ head) (hh1 : head ≤ 4) (hn : 0 ≤ many) (hn1 : many ≤ 4) :
    Ev (fun k => impl_Memory_channel.l0 k b cap head many 0 m cap [] cl) (cap, ringOf m b cap head many.toNat, cl, true) := by
  have key := count_up (L := fun j k => impl_Memory_channel.l0 k b cap head many (j : Int) m cap (ringOf m b cap head j) cl) (R := fun _ => (cap, ringOf m b cap head many.toNat, cl, true)) (n := many.toNat)
    (Ev.one fun k => by rw [impl_Memory_channel.l0, if_neg (by omega)])
    (fun j hj ih => by
      have ht := tmod_in (a := head + (j : Int)) (by omega) hc
      refine Ev.step (fun k => ?_) ih
      rw [impl_Memory_channel.l0, if_pos (by omega), if_neg (by omega), wrap_in (n := b + 4) (by omega) (by omega), wrap_in (n := head + (j : Int)) (by omega) (by omega), wrap_in (n := b + 4 + _) (by omega) (by omega), impl_last_eq m hm _ (by omega) (by omega), Option.bind_some, ring_len, if_pos (by omega), ← ring_succ, wrapS hj (by omega)])
  exact key 0 (Nat.zero_le _)
theorem impl_channel_ev (m : List (List S43)) (hm : memOk m = true) (b cap : Int) (h0 : 0 ≤ b) (hc : 1 ≤ cap) (hc4 : cap ≤ 4) (hb : b + 4 + cap ≤ 24) : Ev (fun k => impl_Memory_channel.f k m b cap) (chanAt m b cap) := by
  have l1 := impl_last_eq m hm (b + 1) (by omega) (by omega)
  have l2 := impl_last_eq m hm (b + 2) (by omega) (by omega)
  have l3 := impl_last_eq m hm (b + 3) (by omega) (by omega)
  simp only [impl_Memory_channel.f, wrap_in (n := b + 1) (by omega) (by omega), wrap_in (n := b + 2) (by omega) (by omega), wrap_in (n := b + 3) (by omega) (by omega), wrap_in (n := cap - 1) (by omega) (by omega), l1, l2, l3, Option.bind_some, impl_within_eq]
  unfold chanAt
  have no : Ev (fun k => impl_Memory_channel.j0 k b cap (lastOf m (b + 1)) (lastOf m (b + 2)) (lastOf m (b + 3)) true m) (0, [], false, false) := Ev.one fun k => by simp [impl_Memory_channel.j0]
  by_cases c1 : inn (lastOf m (b + 1)) 0 (cap - 1) = true
  case neg => rw [if_neg (fun h => c1 h.1)]; exact Ev.ite_neg c1 no
  refine Ev.ite_pos c1 ?_
  by_cases c2 : inn (lastOf m (b + 2)) 0 cap = true
  case neg => rw [if_neg (fun h => c2 h.2.1)]; exact Ev.ite_neg c2 no
  refine Ev.ite_pos c2 ?_
  by_cases c3 : inn (lastOf m (b + 3)) 0 1 = true
  case neg =>
    rw [if_neg (fun h => c3 h.2.2), show inn (lastOf m (b + 3)) 0 1 = false by simpa using c3]
    exact no
  rw [if_pos ⟨c1, c2, c3⟩, c3]
  simp only [inn, decide_eq_true_eq] at c1 c2
  refine Ev.step (fun k => ?_) (impl_ring_ev m hm b cap (lastOf m (b + 1)) (lastOf m (b + 2)) (lastOf m (b + 3) == 1) h0 hc hc4 hb (by omega) (by omega) (by omega) (by omega))
  simp [impl_Memory_channel.j0]
theorem impl_ChanIn_ev (m : List (List S43)) (hm : Small m) (l : List Int) (hl : l.length ≤ 1048576) (n : Int) : Ev (fun k => impl_ChanIn.f k m l n) (chanInOf m l n) := by
  simp only [impl_ChanIn.f]
  refine Ev.bind (impl_Base_ev l hl n) ?_
  unfold chanInOf
  by_cases h : 0 ≤ baseOf l n
  · obtain ⟨r0, r1, r2, r3, r4⟩ := base_room h
    refine Ev.ite_neg (by omega) ?_
    rw [if_pos h]
    refine Ev.bind (impl_MemoryOk_ev m hm) ?_
    by_cases h2 : memOk m = true
    · refine Ev.ite_pos h2 ?_
      rw [if_pos h2]
      refine Ev.ite_pos r0 (Ev.ite_pos r1 (Ev.bind (impl_channel_ev m h2 _ _ h r2 r3 r4) ?_))
      exact Ev.now _
    · refine Ev.ite_neg h2 ?_
      rw [if_neg h2]
      exact Ev.now _
  · refine Ev.ite_pos (by omega) ?_
    rw [if_neg h]
    exact Ev.now _
theorem spec_ring_ev (m : List (List S43)) (hm : memOk m = true) (l : List Int) (n b head many : Int) (cl : Bool) (hn0 : 0 ≤ n) (hn1 : n < (l.length : Int)) (h0 : 0 ≤ b) (hc : 1 ≤ rd l n) (hc4 : rd l n ≤ 4) (hb : b + 4 + rd l n ≤ 24) (hh : 0 ≤ head) (hh1 : head ≤ 4) (hm0 : 0 ≤ many) (hm1 : many ≤ 4) :
    Ev (fun k => spec_ChanIn.l0 k l n b head many 0 m (rd l n) [] cl) (rd l n, ringOf m b (rd l n) head many.toNat, cl, true) := by
  have key := count_up (L := fun j k => spec_ChanIn.l0 k l n b head many (j : Int) m (rd l n) (ringOf m b (rd l n) head j) cl) (R := fun _ => (rd l n, ringOf m b (rd l n) head many.toNat, cl, true)) (n := many.toNat)
    (Ev.one fun k => by rw [spec_ChanIn.l0, if_neg (by omega)])
    (fun j hj ih => by
      have ht := tmod_in (a := head + (j : Int)) (c := rd l n) (by omega) hc
      refine Ev.step (fun k => ?_) ih
      rw [spec_ChanIn.l0, if_pos (by omega), if_pos hn0, if_pos hn1, if_neg (by omega), wrap_in (n := b + 4) (by omega) (by omega), wrap_in (n := head + (j : Int)) (by omega) (by omega), wrap_in (n := b + 4 + _) (by omega) (by omega), spec_last_eq m hm _ (by omega) (by omega), Option.bind_some, ring_len, if_pos (by omega), ← ring_succ, wrapS hj (by omega)])
  exact key 0 (Nat.zero_le _)
theorem spec_ChanIn_ev (m : List (List S43)) (hm : Small m) (l : List Int) (hl : l.length ≤ 1048576) (n : Int) : Ev (fun k => spec_ChanIn.f k m l n) (chanInOf m l n) := by
  simp only [spec_ChanIn.f]
  refine Ev.bind (spec_Base_ev l hl n) ?_
  unfold chanInOf
  have no : ∀ b, Ev (fun k => spec_ChanIn.j0 k l n b true m) (0, [], false, false) := fun b => Ev.one fun k => by simp [spec_ChanIn.j0]
  by_cases h : 0 ≤ baseOf l n
  · obtain ⟨r0, r1, r2, r3, r4⟩ := base_room h
    refine Ev.ite_neg (by omega) ?_
    rw [if_pos h]
    refine Ev.bind (spec_MemoryOk_ev m hm) ?_
    by_cases h2 : memOk m = true
    · rw [if_pos h2, h2]
      generalize hB : baseOf l n = b at *
      have l1 := spec_last_eq m h2 (b + 1) (by omega) (by omega)
      have l2 := spec_last_eq m h2 (b + 2) (by omega) (by omega)
      have l3 := spec_last_eq m h2 (b + 3) (by omega) (by omega)
      have no1 : Ev (fun k => spec_ChanIn.j1 k l n b (lastOf m (b + 1)) (lastOf m (b + 2)) (lastOf m (b + 3)) true m) (0, [], false, false) := Ev.one fun k => by simp [spec_ChanIn.j1]
      refine Ev.step (f := fun k => if inn (lastOf m (b + 1)) 0 (rd l n - 1) = true then (if inn (lastOf m (b + 2)) 0 (rd l n) = true then spec_ChanIn.j1 k l n b (lastOf m (b + 1)) (lastOf m (b + 2)) (lastOf m (b + 3)) (!inn (lastOf m (b + 3)) 0 1) m else spec_ChanIn.j1 k l n b (lastOf m (b + 1)) (lastOf m (b + 2)) (lastOf m (b + 3)) true m) else spec_ChanIn.j1 k l n b (lastOf m (b + 1)) (lastOf m (b + 2)) (lastOf m (b + 3)) true m) (fun k => ?_) ?_
      · simp only [spec_ChanIn.j0, Bool.not_true, Bool.false_eq_true, if_false, wrap_in (n := b + 1) (by omega) (by omega), wrap_in (n := b + 2) (by omega) (by omega), wrap_in (n := b + 3) (by omega) (by omega), wrap_in (n := rd l n - 1) (by omega) (by omega), l1, l2, l3, Option.bind_some, spec_l1In_eq, if_pos r0, if_pos r1]
      · unfold chanAt
        by_cases c1 : inn (lastOf m (b + 1)) 0 (rd l n - 1) = true
        case neg => rw [if_neg (fun h => c1 h.1)]; exact Ev.ite_neg c1 no1
        refine Ev.ite_pos c1 ?_
        by_cases c2 : inn (lastOf m (b + 2)) 0 (rd l n) = true
        case neg => rw [if_neg (fun h => c2 h.2.1)]; exact Ev.ite_neg c2 no1
        refine Ev.ite_pos c2 ?_
        by_cases c3 : inn (lastOf m (b + 3)) 0 1 = true
        case neg =>
          rw [if_neg (fun h => c3 h.2.2), show inn (lastOf m (b + 3)) 0 1 = false by simpa using c3]
          exact no1
        rw [if_pos ⟨c1, c2, c3⟩, c3]
        simp only [inn, decide_eq_true_eq] at c1 c2
        refine Ev.step (fun k => ?_) (spec_ring_ev m h2 l n b (lastOf m (b + 1)) (lastOf m (b + 2)) (lastOf m (b + 3) == 1) r0 r1 h r2 r3 r4 (by omega) (by omega) (by omega) (by omega))
        simp only [spec_ChanIn.j1, Bool.not_true, Bool.false_eq_true, if_false, if_pos r0, if_pos r1]
    · rw [if_neg h2, show memOk m = false by simpa using h2]
      exact no _
  · refine Ev.ite_pos (by omega) ?_
    rw [if_neg h]
    exact no _
theorem chanIn_len (m : List (List S43)) (caps : List Int) (n : Int) : (chanInOf m caps n).2.1.length ≤ 1048576 := by
  unfold chanInOf
  by_cases h : 0 ≤ baseOf caps n
  · obtain ⟨r0, r1, r2, r3, r4⟩ := base_room h
    rw [if_pos h]
    by_cases h2 : memOk m = true
    · rw [if_pos h2]
      unfold chanAt
      by_cases c : inn (lastOf m (baseOf caps n + 1)) 0 (rd caps n - 1) = true ∧ inn (lastOf m (baseOf caps n + 2)) 0 (rd caps n) = true ∧ inn (lastOf m (baseOf caps n + 3)) 0 1 = true
      · rw [if_pos c]
        have c2 := c.2.1
        simp only [inn, decide_eq_true_eq] at c2
        simp only [ring_len]
        omega
      · rw [if_neg c]; simp
    · rw [if_neg h2]; simp
  · rw [if_neg h]; simp
theorem eqChan_self (a_0 : Int) (a_1 : (List Int)) (a_2 : Bool) (h : a_1.length ≤ 1048576) : Ev (fun k => laws_eqChan.f k a_0 a_1 a_2 a_0 a_1 a_2) true := by
  simp only [laws_eqChan.f, eq_self, if_true, bne_self_eq_false, Bool.false_eq_true, if_false]
  refine Ev.bind (eqIntS_self a_1 (by omega)) ?_
  try simp only [eq_self, if_true, bne_self_eq_false, Bool.false_eq_true, if_false]
  exact Ev.now _
theorem wsum_le {α : Type} (wt w' : α → Nat) (m : Nat) : ∀ xs : List α, (∀ x ∈ xs, wt x ≤ m + w' x) → Marks.wsum wt xs ≤ m * xs.length + total w' xs
  | [], _ => by simp [Marks.wsum]
  | x :: xs, h => by
    have h1 := h x List.mem_cons_self
    have h2 := wsum_le wt w' m xs (fun y hy => h y (List.mem_cons_of_mem _ hy))
    rw [Marks.wsum, total, List.length_cons, Nat.mul_add]
    omega
theorem wsum_one {α : Type} : ∀ xs : List α, Marks.wsum (fun _ => 1) xs = xs.length
  | [] => rfl
  | x :: xs => by rw [Marks.wsum, wsum_one xs, List.length_cons]; omega
theorem Ev.if_le {α : Type} {c : Prop} [Decidable c] {g : Nat → Option α} {r : α} (h : c) (k : Ev g r) : Ev (fun n => if c then g n else none) r := by simp only [if_pos h]; exact k
theorem wsum_writes (xs : List S43) : Marks.wsum wt43 xs ≤ 1 * xs.length + total wiWrite xs := wsum_le _ _ 1 xs (fun x _ => by simp only [wt43, wsum_one, wiWrite]; omega)
theorem wsum_mem (m : List (List S43)) : Marks.wsum (Marks.wsum wt43) m ≤ 1 * m.length + total wiWriteS m := wsum_le _ _ 1 m (fun x _ => by have := wsum_writes x; simp only [wiWriteS]; omega)
theorem FnExactChanIn (x0_0 : (List (List S139))) (x1 : (List Int)) (x2 : Int) (ok0 : (x0_0.length ≤ maxLen ∧ ∀ z ∈ x0_0, (z.length ≤ maxLen ∧ ∀ z' ∈ z, (((Lit.int .i64 z'.f0).wf = true) ∧ (z'.f1.length ≤ maxLen ∧ ∀ z'' ∈ z'.f1, ((Lit.int .i64 z'').wf = true)))))) (ok1 : (x1.length ≤ maxLen ∧ ∀ z ∈ x1, ((Lit.int .i64 z).wf = true))) (ok2 : ((Lit.int .i64 x2).wf = true)) : ∃ k, laws_FnExactChanIn.f k x0_0 x1 x2 = some true := by
  have hn : x1.length ≤ 9223372036854775807 := by have := ok1.1; unfold maxLen at this; omega
  refine Ev.rounds (g := fun k => laws_FnExactChanIn.f k x0_0 x1 x2) ?_
  simp only [laws_FnExactChanIn.f]
  by_cases hc : (x1.length : Int) > 1048576
  · exact Ev.ite_pos hc (Ev.now _)
  refine Ev.ite_neg hc ?_
  refine Ev.bind (szMemory_ev x0_0 1048576 (by omega) (by omega) ⟨(by have := ((ok0)).1; unfold maxLen at this; omega), fun x0_ h0_ => ⟨(by have := (((ok0)).2 x0_ h0_).1; unfold maxLen at this; omega), fun x1_ h1_ => (by have := (((((ok0)).2 x0_ h0_).2 x1_ h1_).2).1; unfold maxLen at this; omega)⟩⟩) ?_
  by_cases h : ((x0_0.length + total wlWriteS x0_0 : Nat) : Int) ≤ 1048576
  case neg => rw [left?_no h]; exact Ev.ite_pos (by omega) (Ev.now _)
  rw [left?_yes h]
  refine Ev.ite_neg (by omega) ?_
  have hs := small_of x0_0 (by omega)
  have he := eq_small x0_0 (by omega)
  have hto := toMemory_ev x0_0 (by omega)
  have hti := toIntS_ev x1 (by omega)
  have hl := chanIn_len (x0_0.map cvWriteS) x1 x2
  refine Ev.bind hto ?_
  refine Ev.bind hti ?_
  refine Ev.bind (spec_ChanIn_ev _ hs x1 (by omega) x2) ?_
  refine Ev.bind hto ?_
  refine Ev.bind hti ?_
  refine Ev.bind (impl_ChanIn_ev _ hs x1 (by omega) x2) ?_
  refine Ev.ite_pos rfl ?_
  refine Ev.bind (eqChan_self _ _ _ hl) ?_
  refine Ev.ite_pos rfl ?_
  refine Ev.bind hto ?_
  refine Ev.bind (eqMemory_self _ he) ?_
  refine Ev.ite_pos rfl ?_
  refine Ev.bind hti ?_
  refine Ev.bind (eqIntS_self _ (by omega)) ?_
  refine Ev.ite_pos rfl ?_
  refine Ev.if_le (by have h1 := wsum_mem (x0_0.map cvWriteS); omega) ?_
  refine Ev.if_le (by rw [wsum_one]; omega) ?_
  refine Ev.bind (eqChan_self _ _ _ hl) ?_
  refine Ev.ite_pos rfl ?_
  refine Ev.if_le (by rw [wsum_one]; omega) ?_
  refine Ev.bind hto ?_
  refine Ev.bind hti ?_
  refine Ev.bind (impl_ChanIn_ev _ hs x1 (by omega) x2) ?_
  refine Ev.ite_pos rfl ?_
  refine Ev.bind (eqChan_self _ _ _ hl) ?_
  refine Ev.ite_pos rfl ?_
  exact Ev.now _
end Go.Proofs.Ythbcnakmnbilhaa.Pure
namespace Go.Proofs.Ythbcnakmnbilhaa.Rd
open Go.RowKit Go.Proofs.YthbcnakmnbilhaaW.PrintWords Go.ChangeShapes Go.WideShapes
set_option linter.unusedVariables false
def Opens {α : Type} (P : Program) (t : TypeId) (d : Kd α) (ok : α → Prop) : Prop :=
  ∀ (H : Type) (enc : TypeId × Value → H) (w : World) (base : Nat) (spare : Nat → Bool) (held : Bool) (fuel : Nat) (cs : List Value) (x : DataW H × List MemPlace),
    DataW.trod enc P w base spare held fuel t cs = some x → ∃ y, d.K w y cs ∧ ok y
theorem Opens.int {P : Program} {t : TypeId} {k : IntKind} (ht : P.underlying t = some (.int k)) : Opens P t (Kd.int k) (fun n => (Lit.int k n).wf = true) := by
  intro H enc w base spare held fuel cs x h
  obtain ⟨n, rfl, _, hw⟩ := DataW.trod_int ht h
  exact ⟨n, rfl, hw⟩
theorem Opens.bool {P : Program} {t : TypeId} (ht : P.underlying t = some .bool) : Opens P t Kd.bool (fun _ => True) := by
  intro H enc w base spare held fuel cs x h
  obtain ⟨n, rfl, _⟩ := DataW.trod_bool ht h
  exact ⟨n, rfl, trivial⟩
theorem Opens.weaken {α : Type} {P : Program} {t : TypeId} {d : Kd α} {ok ok' : α → Prop} (h : Opens P t d ok) (hk : ∀ x, ok x → ok' x) : Opens P t d ok' := by
  intro H enc w base spare held fuel cs x hx
  obtain ⟨y, hy, o⟩ := h H enc w base spare held fuel cs x hx
  exact ⟨y, hy, hk y o⟩
theorem list_of {α : Type} {Q : Nat → α → Prop} : ∀ n : Nat, (∀ i, i < n → ∃ y, Q i y) → ∃ ys : List α, ys.length = n ∧ ∀ i y, ys[i]? = some y → Q i y := by
  intro n
  induction n with
  | zero => exact fun _ => ⟨[], rfl, fun i y h => by simp at h⟩
  | succ n ih =>
    intro h
    obtain ⟨ys, hl, hq⟩ := ih (fun i hi => h i (by omega))
    obtain ⟨y, hy⟩ := h n (by omega)
    refine ⟨ys ++ [y], by simp [hl], fun i z hz => ?_⟩
    rcases Nat.lt_or_ge i ys.length with hi | hi
    · rw [List.getElem?_append_left hi] at hz
      exact hq i z hz
    · rw [List.getElem?_append_right hi] at hz
      have h0 : i - ys.length = 0 := by
        have := (List.getElem?_eq_some_iff.1 hz).1
        simp at this
        omega
      rw [h0] at hz
      simp at hz
      subst hz
      have : i = n := by omega
      rw [this]
      exact hy
theorem Opens.slice {α : Type} {P : Program} {t e : TypeId} (q : Nat) {d : Kd α} {ok : α → Prop} (ht : P.underlying t = some (.slice e)) (hs : P.cellsOf e = d.sz) (he : Opens P e d ok) :
    Opens P t (Kd.slice q d) (fun xs => xs.length ≤ maxLen ∧ ∀ x ∈ xs, ok x) := by
  intro H enc w base spare held fuel cs x h
  rcases DataW.trod_slice ht h with ⟨rfl, _⟩ | ⟨a, len, cap, elems, rest, n, _, rfl, _, _, hl, hm, hlen, hel, _, _⟩
  · exact ⟨[], ⟨none, 0, rfl, Nat.le_refl _, rfl, by simp, fun hp => absurd hp (by simp)⟩, by simp, by simp⟩
  · have each : ∀ i, i < len → ∃ y, ∃ c, w.cells? base (a.add (i * d.sz)) d.sz = some c ∧ d.K w y c ∧ ok y := by
      intro i hi
      have h1 := hel i hi
      rw [List.getElem?_eq_getElem (by omega), Option.bind_eq_some_iff, hs] at h1
      obtain ⟨c, hc, hx⟩ := h1
      obtain ⟨y, hy, ho⟩ := he H enc w base spare held n c _ hx
      exact ⟨y, c, hc, hy, ho⟩
    obtain ⟨ys, hyl, hq⟩ := list_of len each
    have hm' : len ≤ 9223372036854775807 := by unfold maxLen at hm; omega
    refine ⟨ys, ⟨some a, cap, by rw [hyl], by omega, rfl, by omega, fun _ => ⟨a, rfl, fun j p hj => ?_⟩⟩, by omega, fun y hy => ?_⟩
    · obtain ⟨c, hc, hk, _⟩ := hq j p hj
      obtain ⟨_, hcl, hcell⟩ := World.cells?_some hc
      refine ⟨c, hcl, hk, fun i u hu => ?_⟩
      have hi : i < d.sz := by
        have := (List.getElem?_eq_some_iff.1 hu).1
        omega
      rw [← Addr.add_add, hcell i hi, hu]
    · obtain ⟨i, hi⟩ := List.getElem?_of_mem hy
      obtain ⟨c, _, _, ho⟩ := hq i y hi
      exact ho
def OpensAt {α : Type} (P : Program) (fs : List Field) (off : Nat) (d : Kd α) (ok : α → Prop) : Prop :=
  ∀ (H : Type) (enc : TypeId × Value → H) (w : World) (base : Nat) (spare : Nat → Bool) (held : Bool) (n : Nat) (cs : List Value), cs.length = off + d.sz →
    (∀ f ∈ fs, ∃ y, DataW.trod enc P w base spare held n f.type ((cs.drop f.offset).take (P.cellsOf f.type)) = some y) → ∃ y, d.K w y (cs.drop off) ∧ ok y
theorem OpensAt.one {α : Type} {P : Program} {f : Field} {off : Nat} {d : Kd α} {ok : α → Prop} (ho : f.offset = off) (hs : P.cellsOf f.type = d.sz) (h : Opens P f.type d ok) : OpensAt P [f] off d ok := by
  intro H enc w base spare held n cs hl hf
  obtain ⟨x, hx⟩ := hf f (by simp)
  rw [ho, hs, List.take_of_length_le (by simp; omega)] at hx
  exact h _ _ _ _ _ _ _ _ _ hx
theorem OpensAt.cons {α β : Type} {P : Program} {f : Field} {fs : List Field} {off : Nat} {a : Kd α} {b : Kd β} {oka : α → Prop} {okb : β → Prop} (ho : f.offset = off) (hs : P.cellsOf f.type = a.sz) (h : Opens P f.type a oka)
    (hr : OpensAt P fs (off + a.sz) b okb) : OpensAt P (f :: fs) off (Kd.pair a b) (fun x => oka x.1 ∧ okb x.2) := by
  intro H enc w base spare held n cs hl hf
  obtain ⟨x, hx⟩ := hf f (by simp)
  rw [ho, hs] at hx
  obtain ⟨y, hy, oy⟩ := h _ _ _ _ _ _ _ _ _ hx
  have hl' : cs.length = (off + a.sz) + b.sz := by rw [hl]; show off + (a.sz + b.sz) = _; omega
  obtain ⟨z, hz, oz⟩ := hr H enc w base spare held n cs hl' (fun g hg => hf g (by simp [hg]))
  refine ⟨(y, z), ⟨_, _, ?_, hy, hz⟩, oy, oz⟩
  rw [← List.drop_drop]
  exact (List.take_append_drop _ _).symm
theorem Opens.struct {α : Type} {P : Program} {t : TypeId} {fs : List Field} {d : Kd α} {ok : α → Prop} (ht : P.underlying t = some (.struct (List.toArray fs))) (hs : P.cellsOf t = d.sz) (h : OpensAt P fs 0 d ok) : Opens P t d ok := by
  intro H enc w base spare held fuel cs x hx
  obtain ⟨xs, n, _, _, hl, hlen, hf⟩ := DataW.trod_struct ht hx
  obtain ⟨y, hy, oy⟩ := h H enc w base spare held n cs (by omega) (fun f hm => by
    obtain ⟨i, hi⟩ := List.getElem?_of_mem hm
    have hi' : (List.toArray fs)[i]? = some f := by simpa using hi
    have h1 := hf i f hi'
    have hlt : i < xs.length := by
      have := (Array.getElem?_eq_some_iff.1 hi').1
      omega
    rw [List.getElem?_eq_getElem hlt] at h1
    exact ⟨_, h1⟩)
  exact ⟨y, by simpa using hy, oy⟩
theorem Opens.iso {α β : Type} {P : Program} {t : TypeId} {d : Kd α} {ok : α → Prop} (f : β → α) (g : α → β) (hg : ∀ x, f (g x) = x) (h : Opens P t d ok) : Opens P t (Kd.iso d f) (fun y => ok (f y)) := by
  intro H enc w base spare held fuel cs x hx
  obtain ⟨y, hy, o⟩ := h H enc w base spare held fuel cs x hx
  refine ⟨g y, ?_, ?_⟩
  · show d.K w (f (g y)) cs
    rw [hg]
    exact hy
  · show ok (f (g y))
    rw [hg]
    exact o
theorem Opens.at_slice {α : Type} {P : Program} {t : TypeId} {q : Nat} {d : Kd α} {ok : List α → Prop} (h : Opens P t (Kd.slice q d) ok) {H : Type} {enc : TypeId × Value → H} {w : World} {base : Nat} {spare : Nat → Bool} {held : Bool} {v : Value} {x : DataW H} {ps : List MemPlace}
    {e : TypeId} {r : Reach} {b0 : Nat} (hu : P.underlying t = some (.slice e)) (hv : Value.okWide P w r b0 t v) (hx : DataW.Trod enc P w base spare held t v x ps) : ∃ xs A c, v = .slice A xs.length c ∧ xs.length ≤ c ∧ d.C w A xs.length xs ∧ ok xs := by
  obtain ⟨a, len, cap, rfl⟩ := okWide_slice hu hv
  obtain ⟨fuel, hf⟩ := hx
  obtain ⟨xs, ⟨A, c, hcs, hl, hC⟩, o⟩ := h _ _ _ _ _ _ _ _ _ hf
  refine ⟨xs, A, c, ?_, hl, hC, o⟩
  simpa [Value.cells] using hcs
theorem Opens.at_struct {α : Type} {P : Program} {t : TypeId} {d : Kd α} {ok : α → Prop} (h : Opens P t d ok) {H : Type} {enc : TypeId × Value → H} {w : World} {base : Nat} {spare : Nat → Bool} {held : Bool} {v : Value} {x : DataW H} {ps : List MemPlace}
    {fs : Array Field} {r : Reach} {b0 : Nat} (hu : P.underlying t = some (.struct fs)) (hv : Value.okWide P w r b0 t v) (hx : DataW.Trod enc P w base spare held t v x ps) : ∃ y cs, v = .agg (List.toArray cs) ∧ d.K w y cs ∧ ok y := by
  obtain ⟨cs, rfl, _⟩ := okWide_struct hu hv
  obtain ⟨fuel, hf⟩ := hx
  obtain ⟨y, hK, o⟩ := h _ _ _ _ _ _ _ _ _ hf
  exact ⟨y, cs.toList, by simp, by simpa [Value.cells] using hK, o⟩
end Go.Proofs.Ythbcnakmnbilhaa.Rd
