/- A part of the proof that the law FnExactSourceNew holds for every input: the words, functions and walks that its row needs, without a condition of their own. -/
import Derived.ProofKit
import Derived.DataElems
import Derived.ChangeArms
import Derived.SizedLaws
import Derived.Test.YtobachfngmpeiaaZFnExactSourceNewa0
import Derived.Test.YtobachfngmpeiaaZFnExactSourceNewa17
namespace Go.Proofs.Ytobachfngmpeiaa.Lp
open Go.RowKit Go.Proofs.YtobachfngmpeiaaW.PrintWords
set_option linter.unusedVariables false
set_option linter.unusedSimpArgs false
theorem wrapS {j n : Nat} (h : j < n) (hn : n ≤ 9223372036854775807) : wrap64 ((j : Int) + 1) = ((j + 1 : Nat) : Int) := by
  unfold wrap64; omega
theorem wrap_in {n : Int} (h0 : -9223372036854775808 ≤ n) (h1 : n ≤ 9223372036854775807) : wrap64 n = n := by
  unfold wrap64; omega
theorem rd_get {xs : List Int} {j : Nat} (h : j < xs.length) : rd xs (j : Int) = xs[j] := by simp [rd, List.getD_eq_getElem?_getD, h]
theorem count_up {ρ : Type} {L : Nat → Nat → Option ρ} {R : Nat → ρ} {n : Nat} (hend : Ev (L n) (R n)) (hstep : ∀ j, j < n → Ev (L (j + 1)) (R (j + 1)) → Ev (L j) (R j)) : ∀ j, j ≤ n → Ev (L j) (R j) := by
  have key : ∀ d j, j + d = n → Ev (L j) (R j) := by
    intro d
    induction d with
    | zero => intro j hj; obtain rfl : j = n := by omega
              exact hend
    | succ d ih => intro j hj; exact hstep j (by omega) (ih (j + 1) (by omega))
  exact fun j hj => key (n - j) j (by omega)
theorem Ev.one {α : Type} {g : Nat → Option α} {r : α} (h : ∀ k, g (k + 1) = some r) : Ev g r := ⟨1, fun k hk => by
  obtain ⟨m, rfl⟩ : ∃ m, k = m + 1 := ⟨k - 1, by omega⟩
  exact h m⟩
theorem Ev.all {α : Type} {g : Nat → Option α} {r : α} (h : ∀ k, g k = some r) : Ev g r := ⟨0, fun k _ => h k⟩
theorem fill_set {α : Type} (l : List α) (z : α) (j : Nat) (h : j < l.length) (x : α) (hx : x = l[j]) : (l.take j ++ List.replicate (l.length - j) z).set j x = l.take (j + 1) ++ List.replicate (l.length - (j + 1)) z := by
  subst hx
  rw [show l.length - j = (l.length - (j + 1)) + 1 by omega, List.replicate_succ, List.set_append_right _ _ (by simp; omega), List.length_take, show j - min j l.length = 0 by omega, List.set_cons_zero, List.take_succ_eq_append_getElem h, List.append_assoc]
  rfl
def agree {α : Type} [DecidableEq α] (a b : List α) (j : Nat) : Bool := decide (a.drop j = b.drop j)
theorem agree_step {α : Type} [DecidableEq α] {a b : List α} {j : Nat} (ha : j < a.length) (hb : j < b.length) (h : a[j] = b[j]) : agree a b j = agree a b (j + 1) := by
  unfold agree
  have e1 := List.drop_eq_getElem_cons ha
  have e2 := List.drop_eq_getElem_cons hb
  rw [decide_eq_decide, e1, e2, h, List.cons.injEq]
  exact ⟨fun c => c.2, fun c => ⟨rfl, c⟩⟩
theorem agree_no {α : Type} [DecidableEq α] {a b : List α} {j : Nat} (ha : j < a.length) (hb : j < b.length) (h : ¬ a[j] = b[j]) : agree a b j = false := by
  unfold agree
  have e1 := List.drop_eq_getElem_cons ha
  have e2 := List.drop_eq_getElem_cons hb
  rw [decide_eq_false_iff_not, e1, e2]
  intro c
  injection c with c1
  exact h c1
theorem agree_end {α : Type} [DecidableEq α] {a b : List α} (h : a.length = b.length) : agree a b a.length = true := by
  unfold agree
  simp [h]
def allFrom {α : Type} (p : α → Bool) (xs : List α) (j : Nat) : Bool := (xs.drop j).all p
theorem allFrom_step {α : Type} {p : α → Bool} {xs : List α} {j : Nat} (h : j < xs.length) : allFrom p xs j = (p xs[j] && allFrom p xs (j + 1)) := by
  unfold allFrom
  rw [List.drop_eq_getElem_cons h, List.all_cons]
theorem allFrom_end {α : Type} {p : α → Bool} (xs : List α) : allFrom p xs xs.length = true := by simp [allFrom]
theorem allFrom_zero {α : Type} (p : α → Bool) (xs : List α) : allFrom p xs 0 = xs.all p := rfl
def total {α : Type} (w : α → Nat) : List α → Nat
  | [] => 0
  | x :: xs => w x + total w xs
theorem total_drop {α : Type} (w : α → Nat) {xs : List α} {j : Nat} (h : j < xs.length) : total w (xs.drop j) = w xs[j] + total w (xs.drop (j + 1)) := by
  rw [List.drop_eq_getElem_cons h, total]
theorem total_mem {α : Type} (w : α → Nat) : ∀ {xs : List α} {x : α}, x ∈ xs → w x ≤ total w xs
  | y :: xs, x, h => by
    rcases List.mem_cons.1 h with rfl | h
    · rw [total]; omega
    · have := total_mem w h
      rw [total]; omega
def left? (t : Nat) (a : Int) : Int := if (t : Int) ≤ a then a - (t : Int) else -1
theorem sz_loop {α : Type} {L : Nat → Int → Nat → Option Int} (xs : List α) (w : α → Nat) (B : Int) (hend : ∀ a, Ev (L xs.length a) a)
    (hyes : ∀ j (h : j < xs.length) a, a ≤ B → (w xs[j] : Int) ≤ a → ∀ r, Ev (L (j + 1) (a - (w xs[j] : Int))) r → Ev (L j a) r)
    (hno : ∀ j (h : j < xs.length) a, 0 ≤ a → a ≤ B → a < (w xs[j] : Int) → Ev (L j a) (-1)) : ∀ a, 0 ≤ a → a ≤ B → Ev (L 0 a) (left? (total w xs) a) := by
  have key : ∀ d j, j + d = xs.length → ∀ a, 0 ≤ a → a ≤ B → Ev (L j a) (left? (total w (xs.drop j)) a) := by
    intro d
    induction d with
    | zero =>
      intro j hj a h0 hB
      obtain rfl : j = xs.length := by omega
      rw [List.drop_length, total, left?, if_pos (by omega), show a - ((0 : Nat) : Int) = a by omega]
      exact hend a
    | succ d ih =>
      intro j hj a h0 hB
      have h : j < xs.length := by omega
      rw [total_drop w h]
      by_cases hw : (w xs[j] : Int) ≤ a
      · refine hyes j h a hB hw _ ?_
        have := ih (j + 1) (by omega) (a - (w xs[j] : Int)) (by omega) (by omega)
        unfold left? at this ⊢
        by_cases c : (total w (xs.drop (j + 1)) : Int) ≤ a - (w xs[j] : Int)
        · rw [if_pos c] at this
          rw [if_pos (by omega), show a - ((w xs[j] + total w (xs.drop (j + 1)) : Nat) : Int) = a - (w xs[j] : Int) - (total w (xs.drop (j + 1)) : Int) by omega]
          exact this
        · rw [if_neg c] at this
          rw [if_neg (by omega)]
          exact this
      · rw [left?, if_neg (by omega)]
        exact hno j h a h0 hB (by omega)
  exact fun a h0 hB => by simpa using key xs.length 0 (by omega) a h0 hB
theorem left?_yes {t : Nat} {a : Int} (h : (t : Int) ≤ a) : left? t a = a - (t : Int) := if_pos h
theorem left?_no {t : Nat} {a : Int} (h : ¬ (t : Int) ≤ a) : left? t a = -1 := if_neg h
theorem left?_add {m t : Nat} {a : Int} (h : (m : Int) ≤ a) : left? t (a - (m : Int)) = left? (m + t) a := by
  unfold left?
  by_cases c : (t : Int) ≤ a - (m : Int)
  · rw [if_pos c, if_pos (by omega)]; omega
  · rw [if_neg c, if_neg (by omega)]
theorem Ev.val {α : Type} {g : Nat → Option α} {r r' : α} (h : r = r') (k : Ev g r) : Ev g r' := h ▸ k
theorem Ev.ite_pos {α : Type} {c : Prop} [Decidable c] {g f : Nat → Option α} {r : α} (h : c) (k : Ev g r) : Ev (fun n => if c then g n else f n) r := by simp only [if_pos h]; exact k
theorem Ev.ite_neg {α : Type} {c : Prop} [Decidable c] {g f : Nat → Option α} {r : α} (h : ¬ c) (k : Ev f r) : Ev (fun n => if c then g n else f n) r := by simp only [if_neg h]; exact k
theorem total_map {α β : Type} (w : α → Nat) (w' : β → Nat) (c : α → β) (h : ∀ x, w' (c x) = w x) : ∀ xs : List α, total w' (xs.map c) = total w xs
  | [] => rfl
  | x :: xs => by rw [List.map_cons, total, total, h, total_map w w' c h xs]
theorem to_loop {α β : Type} {L : Nat → List β → Nat → Option (List β)} (xs : List α) (c : α → β) (z : β) (hend : ∀ ys, ys.length = xs.length → Ev (L xs.length ys) ys)
    (hstep : ∀ j (h : j < xs.length) ys, ys.length = xs.length → ∀ r, Ev (L (j + 1) (ys.set j (c xs[j]))) r → Ev (L j ys) r) : Ev (L 0 (List.replicate xs.length z)) (xs.map c) := by
  have key : ∀ d j, j + d = xs.length → Ev (L j ((xs.map c).take j ++ List.replicate (xs.length - j) z)) (xs.map c) := by
    intro d
    induction d with
    | zero =>
      intro j hj
      obtain rfl : j = xs.length := by omega
      have := hend (xs.map c) (by simp)
      rw [Nat.sub_self, List.replicate_zero, List.append_nil, List.take_of_length_le (by simp)]
      exact this
    | succ d ih =>
      intro j hj
      have h : j < xs.length := by omega
      refine hstep j h _ (by simp; omega) _ ?_
      have h2 := fill_set (xs.map c) z j (by simpa using h) (c xs[j]) (by simp)
      rw [List.length_map] at h2
      rw [h2]
      exact ih (j + 1) (by omega)
  simpa using key xs.length 0 (by omega)
theorem yes_loop {ρ : Type} {L : Nat → Nat → Option ρ} (n : Nat) (r : ρ) (hend : Ev (L n) r) (hstep : ∀ j, j < n → Ev (L (j + 1)) r → Ev (L j) r) : Ev (L 0) r :=
  count_up (R := fun _ => r) hend hstep 0 (Nat.zero_le _)
theorem all_loop {α : Type} {L : Nat → Nat → Option Bool} (xs : List α) (p : α → Bool) {b : Bool} (hend : Ev (L xs.length) b) (hyes : ∀ j (h : j < xs.length), p xs[j] = true → ∀ r, Ev (L (j + 1)) r → Ev (L j) r) (hno : ∀ j (h : j < xs.length), p xs[j] = false → Ev (L j) false) : Ev (L 0) (xs.all p && b) := by
  have key : ∀ d j, j + d = xs.length → Ev (L j) (allFrom p xs j && b) := by
    intro d
    induction d with
    | zero =>
      intro j hj
      obtain rfl : j = xs.length := by omega
      rw [allFrom_end, Bool.true_and]
      exact hend
    | succ d ih =>
      intro j hj
      have h : j < xs.length := by omega
      rw [allFrom_step h]
      cases e : p xs[j] with
      | true => rw [Bool.true_and]; exact hyes j h e _ (ih (j + 1) (by omega))
      | false => rw [Bool.false_and, Bool.false_and]; exact hno j h e
  have := key xs.length 0 (by omega)
  rwa [allFrom_zero] at this
end Go.Proofs.Ytobachfngmpeiaa.Lp
namespace Go.Proofs.Ytobachfngmpeiaa.Pure
open Go.RowKit Go.Proofs.Ytobachfngmpeiaa Go.Proofs.Ytobachfngmpeiaa.PFnExactSourceNew Go.Proofs.YtobachfngmpeiaaW.PrintWords Go.Proofs.YtobachfngmpeiaaW.PrintLast Go.Proofs.Ytobachfngmpeiaa.Lp
set_option linter.unusedVariables false
set_option linter.unusedSimpArgs false
theorem toIntS_ev (l : List Int) (h : l.length ≤ 35184372088832) : Ev (fun k => laws_toIntS.f k l) l := by
  have key := count_up (L := fun j k => laws_toIntS.l0 k l (l.take j ++ List.replicate (l.length - j) 0) (j : Int)) (R := fun _ => l) (n := l.length)
    (Ev.one fun k => by simp [laws_toIntS.l0])
    (fun j hj ih => Ev.step (fun k => by
      simp only [laws_toIntS.l0]
      rw [if_pos (by omega), if_pos (by omega), if_pos (by simp; omega), wrapS hj (by omega), Int.toNat_natCast, fill_set l 0 j hj _ (rd_get hj)]) ih)
  refine Ev.congr (fun k => ?_) (key 0 (Nat.zero_le _))
  unfold laws_toIntS.f
  rw [if_pos (by omega), if_pos (by simpa using h)]
  simp
theorem eqIntS_ev (a b : List Int) (h : a.length ≤ 9223372036854775807) : Ev (fun k => laws_eqIntS.f k a b) (decide (a = b)) := by
  by_cases hl : a.length = b.length
  · have key := count_up (L := fun j k => laws_eqIntS.l0 k a b (j : Int)) (R := fun j => agree a b j) (n := a.length)
      (Ev.one fun k => by simp [laws_eqIntS.l0, agree_end hl])
      (fun j hj ih => by
        by_cases e : a[j] = b[j]
        · exact Ev.step (fun k => by
            simp only [laws_eqIntS.l0]
            rw [if_pos (by omega), if_pos (by omega), if_pos (by omega), if_pos (by rw [rd_get hj, rd_get (by omega), e]), wrapS hj (by omega)]) (by rw [agree_step hj (by omega) e]; exact ih)
        · exact Ev.one fun k => by
            simp only [laws_eqIntS.l0]
            rw [if_pos (by omega), if_pos (by omega), if_pos (by omega), if_neg (by rw [rd_get hj, rd_get (by omega)]; exact e), agree_no hj (by omega) e])
    refine Ev.congr (fun k => ?_) (key 0 (Nat.zero_le _))
    unfold laws_eqIntS.f
    rw [if_pos (by omega)]
    rfl
  · refine Ev.all fun k => ?_
    unfold laws_eqIntS.f
    rw [if_neg (by omega), decide_eq_false (fun e => hl (by rw [e]))]
theorem eqIntS_self (a : List Int) (h : a.length ≤ 9223372036854775807) : Ev (fun k => laws_eqIntS.f k a a) true := by
  have := eqIntS_ev a a h
  simpa using this
def cvIns (x : S208) : S192 := ⟨x.f0, x.f1, x.f2, x.f3, x.f4⟩
def cvInsS (xs : (List S208)) : (List S192) := xs.map cvIns
def wlInsS (xs : (List S208)) : Nat := xs.length
def wiInsS (xs : (List S192)) : Nat := xs.length
theorem w_cvInsS (xs : (List S208)) : wiInsS (cvInsS xs) = wlInsS xs := by simp [wiInsS, wlInsS, cvInsS]
theorem szIntS_ev (l : (List Int)) (a : Int) (h0 : 0 ≤ a) (hB : a ≤ 1048576) (hl : l.length ≤ 9223372036854775807) : Ev (fun k => laws_szIntS.f l a) (left? l.length a) := by
  refine Ev.all fun k => ?_
  unfold laws_szIntS.f left?
  rw [wrap_in (by omega) (by omega)]
  by_cases h : (l.length : Int) ≤ a
  · rw [if_neg (by omega), if_pos h]
  · rw [if_pos (by omega), if_neg h]
theorem szInsS_ev (l : (List S208)) (a : Int) (h0 : 0 ≤ a) (hB : a ≤ 1048576) (hl : l.length ≤ 9223372036854775807) : Ev (fun k => laws_szInsS.f l a) (left? l.length a) := by
  refine Ev.all fun k => ?_
  unfold laws_szInsS.f left?
  rw [wrap_in (by omega) (by omega)]
  by_cases h : (l.length : Int) ≤ a
  · rw [if_neg (by omega), if_pos h]
  · rw [if_pos (by omega), if_neg h]
theorem szInsSS_ev (xs : (List (List S208))) (a : Int) (h0 : 0 ≤ a) (hB : a ≤ 1048576) (hfin : (xs.length ≤ 9223372036854775807 ∧ ∀ y ∈ xs, y.length ≤ 9223372036854775807)) : Ev (fun k => laws_szInsSS.f k xs a) (left? (xs.length + total wlInsS xs) a) := by
  obtain ⟨hl, hfin⟩ := hfin
  have rd_e : ∀ (j : Nat) (hj : j < xs.length), rd_L2 xs (j : Int) = xs[j] := fun j hj => by simp [rd_L2, List.getD_eq_getElem?_getD, hj]
  by_cases h : (xs.length : Int) ≤ a
  · have key := sz_loop (L := fun j a k => laws_szInsSS.l0 k xs a (j : Int)) xs wlInsS 1048576 (fun a => Ev.one fun k => by simp only [laws_szInsSS.l0]; rw [if_neg (by omega)])
      (fun j hj a hB hw r ih => by
        have h0 : 0 ≤ a := by omega
        have hw' : ((xs[j].length : Nat) : Int) ≤ a := hw
        refine Ev.step (fun k => by simp only [laws_szInsSS.l0]; rw [if_pos (by omega), if_pos (by omega), rd_e j hj]) (Ev.bind (szInsS_ev xs[j] a h0 hB (hfin xs[j] (List.getElem_mem hj))) ?_)
        rw [left?_yes hw', wrapS hj hl]
        exact Ev.ite_neg (by omega) ih)
      (fun j hj a h0 hB hw => by
        have hw' : ¬ ((xs[j].length : Nat) : Int) ≤ a := by have : a < (wlInsS xs[j] : Int) := hw; intro c; exact absurd (show (wlInsS xs[j] : Int) ≤ a from c) (by omega)
        refine Ev.step (fun k => by simp only [laws_szInsSS.l0]; rw [if_pos (by omega), if_pos (by omega), rd_e j hj]) (Ev.bind (szInsS_ev xs[j] a h0 hB (hfin xs[j] (List.getElem_mem hj))) ?_)
        rw [left?_no hw']
        exact Ev.ite_pos (by omega) (Ev.now _)) (a - (xs.length : Int)) (by omega) (by omega)
    rw [left?_add h] at key
    refine Ev.congr (fun k => ?_) key
    unfold laws_szInsSS.f
    rw [wrap_in (by omega) (by omega), if_neg (by omega)]
    rfl
  · refine Ev.all fun k => ?_
    unfold laws_szInsSS.f
    rw [wrap_in (by omega) (by omega), if_pos (by omega), left?_no (by omega)]
theorem szProg_ev (a_0 : (List Int)) (a_1 : (List (List S208))) (a : Int) (h0 : 0 ≤ a) (hB : a ≤ 1048576) (hfin : (a_0.length ≤ 9223372036854775807 ∧ (a_1.length ≤ 9223372036854775807 ∧ ∀ y ∈ a_1, y.length ≤ 9223372036854775807))) : Ev (fun k => laws_szProg.f k a_0 a_1 a) (left? (a_0.length + ((a_1.length + total wlInsS a_1))) a) := by
  obtain ⟨h0_, h1_⟩ := hfin
  simp only [laws_szProg.f]
  refine Ev.bind (szIntS_ev a_0 a (by omega) (by omega) h0_) ?_
  by_cases c0 : ((a_0.length : Nat) : Int) ≤ a
  case neg => rw [left?_no c0]; (try rw [left?_no (by omega)]); exact Ev.ite_pos (by omega) (Ev.now _)
  rw [left?_yes c0]
  refine Ev.ite_neg (by omega) ?_
  refine Ev.bind (szInsSS_ev a_1 (a - ((a_0.length : Nat) : Int)) (by omega) (by omega) h1_) ?_
  by_cases c1 : (((a_1.length + total wlInsS a_1) : Nat) : Int) ≤ (a - ((a_0.length : Nat) : Int))
  case neg => rw [left?_no c1]; (try rw [left?_no (by omega)]); exact Ev.ite_pos (by omega) (Ev.now _)
  rw [left?_yes c1]
  refine Ev.ite_neg (by omega) ?_
  (try rw [left?_yes (by omega)])
  exact Ev.val (by omega) (Ev.now _)
theorem toIns_ev (a_0 : Int) (a_1 : Int) (a_2 : Int) (a_3 : Int) (a_4 : Int)  : Ev (fun k => laws_toIns.f a_0 a_1 a_2 a_3 a_4) (a_0, a_1, a_2, a_3, a_4) := by
  exact Ev.all fun k => rfl
theorem toInsS_ev (xs : (List S208)) (h : xs.length ≤ 1048576) : Ev (fun k => laws_toInsS.f k xs) (xs.map cvIns) := by
  have rd_e : ∀ (j : Nat) (hj : j < xs.length), rd_T208 xs (j : Int) = xs[j] := fun j hj => by simp [rd_T208, List.getD_eq_getElem?_getD, hj]
  have key := to_loop (L := fun j ys k => laws_toInsS.l0 k xs ys (j : Int)) xs cvIns z192 (fun ys _ => Ev.one fun k => by simp only [laws_toInsS.l0]; rw [if_neg (by omega)])
    (fun j hj ys hy r ih => by
      refine Ev.step (fun k => by simp only [laws_toInsS.l0]; rw [if_pos (by omega), if_pos (by omega), rd_e j hj]) (Ev.bind (toIns_ev (xs[j].f0) (xs[j].f1) (xs[j].f2) (xs[j].f3) (xs[j].f4) ) ?_)
      refine Ev.ite_pos (by omega) ?_
      rw [wrapS hj (by omega), Int.toNat_natCast]
      exact ih)
  refine Ev.congr (fun k => ?_) key
  unfold laws_toInsS.f
  rw [if_pos (by omega), if_pos (by simp; omega)]
  simp only [Int.toNat_natCast]
  rfl
theorem toInsSS_ev (xs : (List (List S208))) (h : (xs.length + total wlInsS xs) ≤ 1048576) : Ev (fun k => laws_toInsSS.f k xs) (xs.map cvInsS) := by
  have rd_e : ∀ (j : Nat) (hj : j < xs.length), rd_L2 xs (j : Int) = xs[j] := fun j hj => by simp [rd_L2, List.getD_eq_getElem?_getD, hj]
  have key := to_loop (L := fun j ys k => laws_toInsSS.l0 k xs ys (j : Int)) xs cvInsS [] (fun ys _ => Ev.one fun k => by simp only [laws_toInsSS.l0]; rw [if_neg (by omega)])
    (fun j hj ys hy r ih => by
      refine Ev.step (fun k => by simp only [laws_toInsSS.l0]; rw [if_pos (by omega), if_pos (by omega), rd_e j hj]) (Ev.bind (toInsS_ev xs[j] (by have := total_mem wlInsS (List.getElem_mem hj); have h2 : xs[j].length = wlInsS xs[j] := rfl; omega)) ?_)
      refine Ev.ite_pos (by omega) ?_
      rw [wrapS hj (by omega), Int.toNat_natCast]
      exact ih)
  refine Ev.congr (fun k => ?_) key
  unfold laws_toInsSS.f
  rw [if_pos (by omega), if_pos (by simp; omega)]
  simp only [Int.toNat_natCast]
  rfl
theorem toProg_ev (a_0 : (List Int)) (a_1 : (List (List S208))) (h0 : a_0.length ≤ 1048576) (h1 : (a_1.length + total wlInsS a_1) ≤ 1048576) : Ev (fun k => laws_toProg.f k a_0 a_1) (a_0, (a_1.map cvInsS)) := by
  simp only [laws_toProg.f]
  refine Ev.bind (toIntS_ev a_0 (by omega)) ?_
  try simp only []
  refine Ev.bind (toInsSS_ev a_1 h1) ?_
  try simp only []
  exact Ev.now _
theorem eqIns_self (a_0 : Int) (a_1 : Int) (a_2 : Int) (a_3 : Int) (a_4 : Int)  : Ev (fun k => laws_eqIns.f a_0 a_1 a_2 a_3 a_4 a_0 a_1 a_2 a_3 a_4) true := by
  exact Ev.all fun k => by simp [laws_eqIns.f]
theorem eqInsS_self (xs : (List S192)) (h : xs.length ≤ 1048576) : Ev (fun k => laws_eqInsS.f k xs xs) true := by
  have rd_e : ∀ (j : Nat) (hj : j < xs.length), rd_T192 xs (j : Int) = xs[j] := fun j hj => by simp [rd_T192, List.getD_eq_getElem?_getD, hj]
  have key := yes_loop (L := fun j k => laws_eqInsS.l0 k xs xs (j : Int)) xs.length true (Ev.one fun k => by simp only [laws_eqInsS.l0]; rw [if_neg (by omega)])
    (fun j hj ih => by
      refine Ev.step (fun k => by simp only [laws_eqInsS.l0]; rw [if_pos (by omega), if_pos (by omega), if_pos (by omega), rd_e j hj]) (Ev.bind (eqIns_self (xs[j].f0) (xs[j].f1) (xs[j].f2) (xs[j].f3) (xs[j].f4) ) ?_)
      refine Ev.ite_pos rfl ?_
      rw [wrapS hj (by omega)]
      exact ih)
  refine Ev.congr (fun k => ?_) key
  unfold laws_eqInsS.f
  rw [if_pos rfl]
  rfl
theorem eqInsSS_self (xs : (List (List S192))) (h : (xs.length + total wiInsS xs) ≤ 1048576) : Ev (fun k => laws_eqInsSS.f k xs xs) true := by
  have rd_e : ∀ (j : Nat) (hj : j < xs.length), rd_L4 xs (j : Int) = xs[j] := fun j hj => by simp [rd_L4, List.getD_eq_getElem?_getD, hj]
  have key := yes_loop (L := fun j k => laws_eqInsSS.l0 k xs xs (j : Int)) xs.length true (Ev.one fun k => by simp only [laws_eqInsSS.l0]; rw [if_neg (by omega)])
    (fun j hj ih => by
      refine Ev.step (fun k => by simp only [laws_eqInsSS.l0]; rw [if_pos (by omega), if_pos (by omega), if_pos (by omega), rd_e j hj]) (Ev.bind (eqInsS_self xs[j] (by have := total_mem wiInsS (List.getElem_mem hj); have h2 : xs[j].length = wiInsS xs[j] := rfl; omega)) ?_)
      refine Ev.ite_pos rfl ?_
      rw [wrapS hj (by omega)]
      exact ih)
  refine Ev.congr (fun k => ?_) key
  unfold laws_eqInsSS.f
  rw [if_pos rfl]
  rfl
theorem eqProg_self (a_0 : (List Int)) (a_1 : (List (List S192))) (h0 : a_0.length ≤ 1048576) (h1 : (a_1.length + total wiInsS a_1) ≤ 1048576) : Ev (fun k => laws_eqProg.f k a_0 a_1 a_0 a_1) true := by
  simp only [laws_eqProg.f, eq_self, if_true, bne_self_eq_false, Bool.false_eq_true, if_false]
  refine Ev.bind (eqIntS_self a_0 (by omega)) ?_
  try simp only [eq_self, if_true, bne_self_eq_false, Bool.false_eq_true, if_false]
  refine Ev.bind (eqInsSS_self a_1 h1) ?_
  try simp only [eq_self, if_true, bne_self_eq_false, Bool.false_eq_true, if_false]
  exact Ev.now _
def inn (a lo hi : Int) : Bool := decide (lo ≤ a ∧ a ≤ hi)
theorem spec_l1In_eq (a lo hi : Int) : spec_l1In.f a lo hi = some (inn a lo hi) := by
  unfold spec_l1In.f inn
  by_cases h : a ≥ lo
  · rw [if_pos h]; congr 1; simp; omega
  · rw [if_neg h, decide_eq_false (by omega)]
theorem impl_within_eq (a lo hi : Int) : impl_within.f a lo hi = some (inn a lo hi) := by
  unfold impl_within.f inn
  by_cases h : a ≥ lo
  · rw [if_pos h]; congr 1; simp; omega
  · rw [if_neg h, decide_eq_false (by omega)]
def InsR (op r a b n p c : Int) : Prop :=
  (0 ≤ r ∧ r ≤ 3) ∧ (0 ≤ a ∧ a ≤ 3) ∧ (0 ≤ b ∧ b ≤ 3) ∧ (0 ≤ c ∧ c ≤ 3) ∧
  ((op = 1 ∧ (-1000000000 ≤ n ∧ n ≤ 1000000000) ∧ a = 0 ∧ b = 0) ∨ ((op = 2 ∨ op = 3 ∨ op = 4) ∧ n = 0) ∨ (op = 5 ∧ (0 ≤ n ∧ n < c) ∧ r = 0 ∧ b = 0) ∨
   ((op = 6 ∨ op = 8) ∧ (0 ≤ n ∧ n < c) ∧ a = 0 ∧ r ≠ b) ∨ (op = 7 ∧ (0 ≤ n ∧ n < c) ∧ b = 0) ∨ (op = 9 ∧ (0 ≤ n ∧ n < c) ∧ r = 0 ∧ a = 0 ∧ b = 0) ∨ (op = 10 ∧ r = 0 ∧ b = 0 ∧ n = 0) ∨
   (op = 11 ∧ (0 ≤ n ∧ n < p) ∧ r = 0 ∧ a = 0 ∧ b = 0) ∨ (op = 12 ∧ (0 ≤ n ∧ n < p) ∧ r = 0 ∧ b = 0) ∨ (op = 13 ∧ r = 0 ∧ a = 0 ∧ b = 0 ∧ n = 0))
instance (op r a b n p c : Int) : Decidable (InsR op r a b n p c) := by unfold InsR; infer_instance
def insOk (op r a b n p c : Int) : Bool := decide (InsR op r a b n p c)
theorem op_cases (op : Int) : op = 1 ∨ op = 2 ∨ op = 3 ∨ op = 4 ∨ op = 5 ∨ op = 6 ∨ op = 7 ∨ op = 8 ∨ op = 9 ∨ op = 10 ∨ op = 11 ∨ op = 12 ∨ op = 13 ∨ (op < 1 ∨ 13 < op) := by omega
theorem wrap_pred {p : Int} (h0 : -9223372036854775807 ≤ p) (h1 : p ≤ 9223372036854775807) : wrap64 (p - 1) = p - 1 := wrap_in (by omega) (by omega)
theorem spec_InsOk_ev (op r a b n p c : Int) : Ev (fun k => spec_InsOk.f k op r a b n p c) (insOk op r a b n p c) := by
  refine ⟨5, fun k hk => ?_⟩
  obtain ⟨m, rfl⟩ : ∃ m, k = m + 5 := ⟨k - 5, by omega⟩
  by_cases hcc : 0 ≤ c ∧ c ≤ 3
  case neg =>
    have h' : ¬ InsR op r a b n p c := by unfold InsR; omega
    simp only [spec_InsOk.f, spec_InsOk.j0, spec_l1In_eq, Option.bind_some, inn, insOk, decide_eq_false hcc, decide_eq_false h', Bool.not_false, if_true]
    repeat' split
    all_goals rfl
  have hc : -9223372036854775807 ≤ c := by omega
  have hc' : c ≤ 9223372036854775807 := by omega
  simp only [spec_InsOk.f, spec_InsOk.j0, spec_InsOk.j1, spec_InsOk.j2, spec_InsOk.j3, spec_l1In_eq, Option.bind_some, inn, insOk, decide_eq_true_eq, wrap_pred hc hc']
  rcases op_cases op with rfl | rfl | rfl | rfl | rfl | rfl | rfl | rfl | rfl | rfl | rfl | rfl | rfl | h
  case inr.inr.inr.inr.inr.inr.inr.inr.inr.inr.inr.inr.inr =>
    have h' : ¬ InsR op r a b n p c := by unfold InsR; omega
    have h4 : (op == 4) = false := by simpa using (show ¬ op = 4 by omega)
    have h8 : (op == 8) = false := by simpa using (show ¬ op = 8 by omega)
    simp only [if_neg (show ¬ op = 1 by omega), if_neg (show ¬ op = 2 by omega), if_neg (show ¬ op = 3 by omega), if_neg (show ¬ op = 5 by omega), if_neg (show ¬ op = 6 by omega), if_neg (show ¬ op = 7 by omega), if_neg (show ¬ op = 9 by omega), if_neg (show ¬ op = 10 by omega), if_neg (show ¬ op = 11 by omega), if_neg (show ¬ op = 12 by omega), if_neg (show ¬ op = 13 by omega), decide_eq_false h', h4, h8, Bool.false_eq_true, if_false]
    repeat' split
    all_goals rfl
  all_goals
    simp only [InsR]
    simp
    repeat' split
    all_goals first
      | (congr 1; rw [Bool.eq_iff_iff]; simp; omega)
      | (simp; omega)
theorem impl_isReg_eq (a : Int) : impl_isReg.f a = some (inn a 0 3) := by simp [impl_isReg.f, impl_within_eq]
theorem impl_ofChan_eq (a : Int) : impl_ofChan.f a = some (inn a 5 9) := by simp [impl_ofChan.f, impl_within_eq]
theorem impl_InsOk_ev (op r a b n p c : Int) (hp : -9223372036854775807 ≤ p) (hp' : p ≤ 9223372036854775807) : Ev (fun k => impl_InsOk.f k op r a b n p c) (insOk op r a b n p c) := by
  refine ⟨8, fun k hk => ?_⟩
  obtain ⟨m, rfl⟩ : ∃ m, k = m + 8 := ⟨k - 8, by omega⟩
  by_cases hcc : 0 ≤ c ∧ c ≤ 3
  case neg =>
    have h' : ¬ InsR op r a b n p c := by unfold InsR; omega
    simp only [impl_InsOk.f, impl_InsOk.j0, impl_within_eq, Option.bind_some, inn, insOk, decide_eq_false hcc, decide_eq_false h', Bool.false_eq_true, if_false, if_true]
  have hc : -9223372036854775807 ≤ c := by omega
  have hc' : c ≤ 9223372036854775807 := by omega
  simp only [impl_InsOk.f, impl_InsOk.j0, impl_InsOk.j1, impl_InsOk.j2, impl_named.f, impl_named.j0, impl_named.j1, impl_named.j2, impl_named.j3, impl_isReg_eq, impl_ofChan_eq, impl_within_eq, Option.bind_some, inn, insOk, decide_eq_true_eq, wrap_pred hc hc', wrap_pred hp hp']
  rcases op_cases op with rfl | rfl | rfl | rfl | rfl | rfl | rfl | rfl | rfl | rfl | rfl | rfl | rfl | h
  case inr.inr.inr.inr.inr.inr.inr.inr.inr.inr.inr.inr.inr =>
    have h' : ¬ InsR op r a b n p c := by unfold InsR; omega
    simp only [if_neg (show ¬ (1 ≤ op ∧ op ≤ 13) by omega), decide_eq_false h', if_true]
    repeat' split
    all_goals rfl
  all_goals
    simp only [InsR]
    simp
    repeat' split
    all_goals first
      | (congr 1; rw [Bool.eq_iff_iff]; simp; omega)
      | (simp; omega)
def insIn (p c : Int) (x : S192) : Bool := insOk x.f0 x.f1 x.f2 x.f3 x.f4 p c
def lastOk (l : List S192) : Bool := decide ((l.getD (l.length - 1) z192).f0 = 13 ∨ (l.getD (l.length - 1) z192).f0 = 11)
def bodyOk (l : List S192) (c : Int) : Bool := l.all (insIn (l.length : Int) c) && (inn (l.length : Int) 1 24 && inn c 0 3 && lastOk l)
theorem rd_ins (l : List S192) (j : Nat) (h : j < l.length) : rd_T192 l (j : Int) = l[j] := by simp [rd_T192, List.getD_eq_getElem?_getD, h]
theorem last_ok (l : List S192) : (if (l.getD (l.length - 1) z192).f0 = 13 then some true else some ((l.getD (l.length - 1) z192).f0 == 11)) = some (lastOk l) := by
  unfold lastOk
  generalize (l.getD (l.length - 1) z192).f0 = q
  by_cases h : q = 13
  · rw [if_pos h, decide_eq_true (.inl h)]
  · rw [if_neg h]
    congr 1
    rw [Bool.eq_iff_iff]
    simp [h]
theorem rd_last (l : List S192) (h : 1 ≤ l.length) : rd_T192 l ((l.length : Int) - 1) = l.getD (l.length - 1) z192 := by
  rw [rd_T192, show ((l.length : Int) - 1).toNat = l.length - 1 by omega]
theorem spec_BodyOk_ev (l : List S192) (c : Int) (hl : l.length ≤ 1048576) : Ev (fun k => spec_BodyOk.f k l c) (bodyOk l c) := by
  refine all_loop (L := fun j k => spec_BodyOk.l0 k l c (l.length : Int) (j : Int)) l (insIn (l.length : Int) c) ?_ (fun j hj hp r ih => ?_) (fun j hj hp => ?_)
  · refine Ev.one fun k => ?_
    simp only [spec_BodyOk.l0, spec_l1In_eq, Option.bind_some]
    rw [if_neg (by omega)]
    by_cases h1 : inn (l.length : Int) 1 24 = true
    · have h1' : 1 ≤ (l.length : Int) := by simp only [inn, decide_eq_true_eq] at h1; exact h1.1
      by_cases h2 : inn c 0 3 = true
      · rw [if_pos h1, if_pos h2, wrap_in (by omega) (by omega), if_pos (by omega), if_pos (by omega), rd_last l (by omega), last_ok, h1, h2]
        rfl
      · rw [if_pos h1, if_neg h2, h1, show inn c 0 3 = false by simpa using h2]
        rfl
    · rw [if_neg h1, show inn (l.length : Int) 1 24 = false by simpa using h1]
      rfl
  · refine Ev.step (fun k => by simp only [spec_BodyOk.l0]; rw [if_pos (by omega), if_pos (by omega), if_pos (by omega), rd_ins l j hj]) (Ev.bind (spec_InsOk_ev _ _ _ _ _ _ _) ?_)
    refine Ev.ite_pos hp ?_
    rw [wrapS hj (by omega)]
    exact ih
  · refine Ev.step (fun k => by simp only [spec_BodyOk.l0]; rw [if_pos (by omega), if_pos (by omega), if_pos (by omega), rd_ins l j hj]) (Ev.bind (spec_InsOk_ev _ _ _ _ _ _ _) ?_)
    exact Ev.ite_neg (fun e => by have e' : insIn (l.length : Int) c l[j] = true := e; rw [hp] at e'; cases e') (Ev.now _)
theorem impl_BodyOk_ev (l : List S192) (c : Int) (hl : l.length ≤ 1048576) : Ev (fun k => impl_BodyOk.f k l c) (bodyOk l c) := by
  simp only [impl_BodyOk.f, impl_within_eq, Option.bind_some]
  by_cases h2 : inn c 0 3 = true
  · have h2' : 0 ≤ c ∧ c ≤ 3 := by simpa [inn] using h2
    refine Ev.ite_pos h2 ?_
    by_cases h1 : inn (l.length : Int) 1 24 = true
    · have h1' : 1 ≤ (l.length : Int) := by simp only [inn, decide_eq_true_eq] at h1; exact h1.1
      rw [h1]
      refine Ev.step (fun k => by rw [impl_BodyOk.j0, if_neg (by simp)]) ?_
      refine Ev.val (r := l.all (insIn (l.length : Int) c) && lastOk l) (by unfold bodyOk; rw [h1, h2]; simp) ?_
      refine all_loop (L := fun j k => impl_BodyOk.l0 k l c l (l.length : Int) (j : Int)) l (insIn (l.length : Int) c) ?_ (fun j hj hp r ih => ?_) (fun j hj hp => ?_)
      · refine Ev.one fun k => ?_
        simp only [impl_BodyOk.l0]
        rw [if_neg (by omega), wrap_in (by omega) (by omega), if_pos (by omega), if_pos (by omega), rd_last l (by omega), last_ok]
      · refine Ev.step (fun k => by simp only [impl_BodyOk.l0]; rw [if_pos (by omega), if_pos (by omega), if_pos (by omega), rd_ins l j hj]) (Ev.bind (impl_InsOk_ev _ _ _ _ _ _ _ (by omega) (by omega)) ?_)
        refine Ev.ite_pos hp ?_
        rw [wrapS hj (by omega)]
        exact ih
      · refine Ev.step (fun k => by simp only [impl_BodyOk.l0]; rw [if_pos (by omega), if_pos (by omega), if_pos (by omega), rd_ins l j hj]) (Ev.bind (impl_InsOk_ev _ _ _ _ _ _ _ (by omega) (by omega)) ?_)
        exact Ev.ite_neg (fun e => by have e' : insIn (l.length : Int) c l[j] = true := e; rw [hp] at e'; cases e') (Ev.now _)
    · have h1' : inn (l.length : Int) 1 24 = false := by simpa using h1
      rw [h1']
      refine Ev.one fun k => ?_
      rw [impl_BodyOk.j0, if_pos (by simp), bodyOk, h1']
      simp
  · have h2' : inn c 0 3 = false := by simpa using h2
    refine Ev.ite_neg h2 ?_
    refine Ev.one fun k => ?_
    rw [impl_BodyOk.j0, if_pos rfl, bodyOk, h2']
    simp
def capOk (c : Int) : Bool := inn c 1 4
def progOk (cs : List Int) (bs : List (List S192)) : Bool := cs.all capOk && (bs.all (fun b => bodyOk b (cs.length : Int)) && (decide ((cs.length : Int) ≤ 3) && inn (bs.length : Int) 1 4))
theorem rd_body (m : List (List S192)) (j : Nat) (h : j < m.length) : rd_L4 m (j : Int) = m[j] := by simp [rd_L4, List.getD_eq_getElem?_getD, h]
theorem impl_capsOk_ev (l : List Int) (h : l.length ≤ 9223372036854775807) : Ev (fun k => impl_capsOk.f k l) (l.all capOk) := by
  have key := count_up (L := fun j k => impl_capsOk.l0 k l (l.length : Int) (j : Int)) (R := fun j => allFrom capOk l j) (n := l.length)
    (Ev.one fun k => by simp [impl_capsOk.l0, allFrom_end])
    (fun j hj ih => by
      by_cases e : capOk l[j] = true
      · exact Ev.step (fun k => by
          simp only [impl_capsOk.l0]
          rw [if_pos (by omega), if_pos (by omega), if_pos (by omega), rd_get hj, impl_within_eq, Option.bind_some, show inn l[j] 1 4 = true from e, if_pos rfl, wrapS hj (by omega)]) (by rw [allFrom_step hj, e, Bool.true_and]; exact ih)
      · refine Ev.one fun k => ?_
        simp only [impl_capsOk.l0]
        rw [if_pos (by omega), if_pos (by omega), if_pos (by omega), rd_get hj, impl_within_eq, Option.bind_some, if_neg (show ¬ inn l[j] 1 4 = true from e), allFrom_step hj]
        simp [e])
  exact key 0 (Nat.zero_le _)
theorem spec_ProgOk_ev (cs : List Int) (bs : List (List S192)) (hc : cs.length ≤ 1048576) (hb : bs.length ≤ 1048576) (hbs : ∀ b ∈ bs, b.length ≤ 1048576) : Ev (fun k => spec_ProgOk.f k cs bs) (progOk cs bs) := by
  refine all_loop (L := fun j k => spec_ProgOk.l0 k (j : Int) cs bs) cs capOk ?_ (fun j hj hp r ih => ?_) (fun j hj hp => ?_)
  · refine Ev.step (f := fun k => spec_ProgOk.l1 k 0 cs bs) (fun k => by simp only [spec_ProgOk.l0]; rw [if_neg (by omega)]) ?_
    refine all_loop (L := fun j k => spec_ProgOk.l1 k (j : Int) cs bs) bs (fun b => bodyOk b (cs.length : Int)) ?_ (fun j hj hp r ih => ?_) (fun j hj hp => ?_)
    · refine Ev.one fun k => ?_
      simp only [spec_ProgOk.l1, spec_l1In_eq, Option.bind_some]
      rw [if_neg (by omega)]
      by_cases h : (cs.length : Int) ≤ 3
      · rw [if_pos h, decide_eq_true h, Bool.true_and]
      · rw [if_neg h, decide_eq_false h, Bool.false_and]
    · refine Ev.step (fun k => by simp only [spec_ProgOk.l1]; rw [if_pos (by omega), if_pos (by omega), rd_body bs j hj]) (Ev.bind (spec_BodyOk_ev _ _ (hbs _ (List.getElem_mem hj))) ?_)
      refine Ev.ite_pos hp ?_
      rw [wrapS hj (by omega)]
      exact ih
    · refine Ev.step (fun k => by simp only [spec_ProgOk.l1]; rw [if_pos (by omega), if_pos (by omega), rd_body bs j hj]) (Ev.bind (spec_BodyOk_ev _ _ (hbs _ (List.getElem_mem hj))) ?_)
      exact Ev.ite_neg (by rw [hp]; simp) (Ev.now _)
  · refine Ev.step (fun k => by simp only [spec_ProgOk.l0, spec_l1In_eq, Option.bind_some]; rw [if_pos (by omega), if_pos (by omega), rd_get hj, if_pos (show inn cs[j] 1 4 = true from hp), wrapS hj (by omega)]) ih
  · refine Ev.one fun k => ?_
    simp only [spec_ProgOk.l0, spec_l1In_eq, Option.bind_some]
    rw [if_pos (by omega), if_pos (by omega), rd_get hj, if_neg (fun e => by have e' : capOk cs[j] = true := e; rw [hp] at e'; cases e')]
theorem impl_ProgOk_ev (cs : List Int) (bs : List (List S192)) (hc : cs.length ≤ 1048576) (hb : bs.length ≤ 1048576) (hbs : ∀ b ∈ bs, b.length ≤ 1048576) : Ev (fun k => impl_ProgOk.f k cs bs) (progOk cs bs) := by
  refine Ev.val (r := bs.all (fun b => bodyOk b (cs.length : Int)) && (decide ((cs.length : Int) ≤ 3) && (cs.all capOk && inn (bs.length : Int) 1 4))) (by
    unfold progOk
    cases cs.all capOk <;> cases bs.all (fun b => bodyOk b (cs.length : Int)) <;> cases decide ((cs.length : Int) ≤ 3) <;> rfl) ?_
  refine all_loop (L := fun j k => impl_ProgOk.l0 k bs (bs.length : Int) (j : Int) cs bs) bs (fun b => bodyOk b (cs.length : Int)) ?_ (fun j hj hp r ih => ?_) (fun j hj hp => ?_)
  · by_cases h : (cs.length : Int) ≤ 3
    · refine Ev.step (fun k => by simp only [impl_ProgOk.l0, impl_within_eq, Option.bind_some]; rw [if_neg (by omega), if_pos h]) (Ev.bind (impl_capsOk_ev cs (by omega)) ?_)
      rw [decide_eq_true h, Bool.true_and]
      by_cases hp : cs.all capOk = true
      · rw [hp]
        exact Ev.ite_pos rfl (Ev.now _)
      · rw [show cs.all capOk = false by simpa using hp]
        exact Ev.ite_neg (by simp) (Ev.now _)
    · refine Ev.one fun k => ?_
      simp only [impl_ProgOk.l0]
      rw [if_neg (by omega), if_neg h, decide_eq_false h, Bool.false_and]
  · refine Ev.step (fun k => by simp only [impl_ProgOk.l0]; rw [if_pos (by omega), if_pos (by omega), if_pos (by omega), rd_body bs j hj]) (Ev.bind (impl_BodyOk_ev _ _ (hbs _ (List.getElem_mem hj))) ?_)
    refine Ev.ite_pos hp ?_
    rw [wrapS hj (by omega)]
    exact ih
  · refine Ev.step (fun k => by simp only [impl_ProgOk.l0]; rw [if_pos (by omega), if_pos (by omega), if_pos (by omega), rd_body bs j hj]) (Ev.bind (impl_BodyOk_ev _ _ (hbs _ (List.getElem_mem hj))) ?_)
    exact Ev.ite_neg (by rw [hp]; simp) (Ev.now _)
theorem bodies_small (xs : List (List S208)) (h : xs.length + total wlInsS xs ≤ 1048576) : (xs.map cvInsS).length ≤ 1048576 ∧ ∀ b ∈ xs.map cvInsS, b.length ≤ 1048576 := by
  refine ⟨by simp; omega, fun c hc => ?_⟩
  obtain ⟨y, hy, rfl⟩ := List.mem_map.1 hc
  have h1 := total_mem wlInsS hy
  have h2 : wlInsS y = y.length := rfl
  simp [cvInsS]
  omega
theorem bodies_eq (xs : List (List S208)) (h : xs.length + total wlInsS xs ≤ 1048576) : (xs.map cvInsS).length + total wiInsS (xs.map cvInsS) ≤ 1048576 := by
  rw [List.length_map, total_map wlInsS wiInsS cvInsS w_cvInsS]
  exact h
def wiThread (x : S107) : Nat := x.f1.length
def wiChan (x : S94) : Nat := x.f1.length
theorem eqThread_big (a_0 : Int) (a_1 : (List Int)) (a_2 : Int) (h : a_1.length ≤ 1099511627776) : Ev (fun k => laws_eqThread.f k a_0 a_1 a_2 a_0 a_1 a_2) true := by
  simp only [laws_eqThread.f, eq_self, if_true, bne_self_eq_false, Bool.false_eq_true, if_false]
  refine Ev.bind (eqIntS_self a_1 (by omega)) ?_
  try simp only [eq_self, if_true, bne_self_eq_false, Bool.false_eq_true, if_false]
  exact Ev.now _
theorem eqThreadS_big (xs : (List S107)) (h : (xs.length + total wiThread xs) ≤ 1099511627776) : Ev (fun k => laws_eqThreadS.f k xs xs) true := by
  have rd_e : ∀ (j : Nat) (hj : j < xs.length), rd_T107 xs (j : Int) = xs[j] := fun j hj => by simp [rd_T107, List.getD_eq_getElem?_getD, hj]
  have key := yes_loop (L := fun j k => laws_eqThreadS.l0 k xs xs (j : Int)) xs.length true (Ev.one fun k => by simp only [laws_eqThreadS.l0]; rw [if_neg (by omega)])
    (fun j hj ih => by
      refine Ev.step (fun k => by simp only [laws_eqThreadS.l0]; rw [if_pos (by omega), if_pos (by omega), if_pos (by omega), rd_e j hj]) (Ev.bind (eqThread_big (xs[j].f0) (xs[j].f1) (xs[j].f2) (by have := total_mem wiThread (List.getElem_mem hj); have h2 : xs[j].f1.length = wiThread xs[j] := rfl; omega)) ?_)
      refine Ev.ite_pos rfl ?_
      rw [wrapS hj (by omega)]
      exact ih)
  refine Ev.congr (fun k => ?_) key
  unfold laws_eqThreadS.f
  rw [if_pos rfl]
  rfl
theorem eqChan_big (a_0 : Int) (a_1 : (List Int)) (a_2 : Bool) (h : a_1.length ≤ 1099511627776) : Ev (fun k => laws_eqChan.f k a_0 a_1 a_2 a_0 a_1 a_2) true := by
  simp only [laws_eqChan.f, eq_self, if_true, bne_self_eq_false, Bool.false_eq_true, if_false]
  refine Ev.bind (eqIntS_self a_1 (by omega)) ?_
  try simp only [eq_self, if_true, bne_self_eq_false, Bool.false_eq_true, if_false]
  exact Ev.now _
theorem eqChanS_big (xs : (List S94)) (h : (xs.length + total wiChan xs) ≤ 1099511627776) : Ev (fun k => laws_eqChanS.f k xs xs) true := by
  have rd_e : ∀ (j : Nat) (hj : j < xs.length), rd_T94 xs (j : Int) = xs[j] := fun j hj => by simp [rd_T94, List.getD_eq_getElem?_getD, hj]
  have key := yes_loop (L := fun j k => laws_eqChanS.l0 k xs xs (j : Int)) xs.length true (Ev.one fun k => by simp only [laws_eqChanS.l0]; rw [if_neg (by omega)])
    (fun j hj ih => by
      refine Ev.step (fun k => by simp only [laws_eqChanS.l0]; rw [if_pos (by omega), if_pos (by omega), if_pos (by omega), rd_e j hj]) (Ev.bind (eqChan_big (xs[j].f0) (xs[j].f1) (xs[j].f2) (by have := total_mem wiChan (List.getElem_mem hj); have h2 : xs[j].f1.length = wiChan xs[j] := rfl; omega)) ?_)
      refine Ev.ite_pos rfl ?_
      rw [wrapS hj (by omega)]
      exact ih)
  refine Ev.congr (fun k => ?_) key
  unfold laws_eqChanS.f
  rw [if_pos rfl]
  rfl
theorem eqNote_big (a_0 : Int) (a_1 : Int)  : Ev (fun k => laws_eqNote.f a_0 a_1 a_0 a_1) true := by
  exact Ev.all fun k => by simp [laws_eqNote.f]
theorem eqNoteS_big (xs : (List S35)) (h : xs.length ≤ 1099511627776) : Ev (fun k => laws_eqNoteS.f k xs xs) true := by
  have rd_e : ∀ (j : Nat) (hj : j < xs.length), rd_T35 xs (j : Int) = xs[j] := fun j hj => by simp [rd_T35, List.getD_eq_getElem?_getD, hj]
  have key := yes_loop (L := fun j k => laws_eqNoteS.l0 k xs xs (j : Int)) xs.length true (Ev.one fun k => by simp only [laws_eqNoteS.l0]; rw [if_neg (by omega)])
    (fun j hj ih => by
      refine Ev.step (fun k => by simp only [laws_eqNoteS.l0]; rw [if_pos (by omega), if_pos (by omega), if_pos (by omega), rd_e j hj]) (Ev.bind (eqNote_big (xs[j].f0) (xs[j].f1) ) ?_)
      refine Ev.ite_pos rfl ?_
      rw [wrapS hj (by omega)]
      exact ih)
  refine Ev.congr (fun k => ?_) key
  unfold laws_eqNoteS.f
  rw [if_pos rfl]
  rfl
theorem eqSource_big (a_0 : (List S107)) (a_1 : (List S94)) (a_2 : (List S35)) (h0 : (a_0.length + total wiThread a_0) ≤ 1099511627776) (h1 : (a_1.length + total wiChan a_1) ≤ 1099511627776) (h2 : a_2.length ≤ 1099511627776) : Ev (fun k => laws_eqSource.f k a_0 a_1 a_2 a_0 a_1 a_2) true := by
  simp only [laws_eqSource.f, eq_self, if_true, bne_self_eq_false, Bool.false_eq_true, if_false]
  refine Ev.bind (eqThreadS_big a_0 h0) ?_
  try simp only [eq_self, if_true, bne_self_eq_false, Bool.false_eq_true, if_false]
  refine Ev.bind (eqChanS_big a_1 h1) ?_
  try simp only [eq_self, if_true, bne_self_eq_false, Bool.false_eq_true, if_false]
  refine Ev.bind (eqNoteS_big a_2 h2) ?_
  try simp only [eq_self, if_true, bne_self_eq_false, Bool.false_eq_true, if_false]
  exact Ev.now _
theorem wsum_le {α : Type} (wt w' : α → Nat) (m : Nat) : ∀ xs : List α, (∀ x ∈ xs, wt x ≤ m + w' x) → Marks.wsum wt xs ≤ m * xs.length + total w' xs
  | [], _ => by simp [Marks.wsum]
  | x :: xs, h => by
    have h1 := h x List.mem_cons_self
    have h2 := wsum_le wt w' m xs (fun y hy => h y (List.mem_cons_of_mem _ hy))
    rw [Marks.wsum, total, List.length_cons, Nat.mul_add]
    omega
theorem wsum_one {α : Type} : ∀ xs : List α, Marks.wsum (fun _ => 1) xs = xs.length
  | [] => rfl
  | x :: xs => by rw [Marks.wsum, wsum_one xs, List.length_cons]; omega
theorem Ev.if_le {α : Type} {c : Prop} [Decidable c] {g : Nat → Option α} {r : α} (h : c) (k : Ev g r) : Ev (fun n => if c then g n else none) r := by simp only [if_pos h]; exact k
theorem wsum_threads (xs : List S107) : Marks.wsum wt107 xs ≤ 2 * xs.length + total wiThread xs := wsum_le _ _ 2 xs (fun x _ => by simp only [wt107, wsum_one, wiThread]; omega)
theorem wsum_chans (xs : List S94) : Marks.wsum wt94 xs ≤ 2 * xs.length + total wiChan xs := wsum_le _ _ 2 xs (fun x _ => by simp only [wt94, wsum_one, wiChan]; omega)
theorem total_zero {α : Type} : ∀ xs : List α, total (fun _ => 0) xs = 0
  | [] => rfl
  | x :: xs => by rw [total, total_zero xs]
def thr0 : S107 := ⟨0, List.replicate 4 0, 0⟩
def chan0 (c : Int) : S94 := ⟨c, [], false⟩
def srcNew (cs : List Int) (bs : List (List S192)) : List S107 × List S94 × List S35 × Bool :=
  if progOk cs bs = true then (List.replicate bs.length thr0, cs.map chan0, [], true) else ([], [], [], false)
theorem chan_step (cs : List Int) (j : Nat) (h : j < cs.length) : (cs.map chan0).take j ++ [(⟨rd cs (j : Int), ([] : List Int), false⟩ : S94)] = (cs.map chan0).take (j + 1) := by
  have hl : j < (cs.map chan0).length := by simpa using h
  rw [rd_get h, List.take_succ_eq_append_getElem hl]
  simp [chan0]
theorem thr_step (j : Nat) : List.replicate j thr0 ++ [(⟨0, List.replicate 4 0, 0⟩ : S107)] = List.replicate (j + 1) thr0 := List.replicate_succ'.symm
theorem spec_chans_ev (cs : List Int) (bs : List (List S192)) (ts : List S107) (h : cs.length ≤ 1048576) : Ev (fun k => spec_SourceNew.l1 k 0 cs bs ts []) (ts, cs.map chan0, [], true) := by
  have key := count_up (L := fun j k => spec_SourceNew.l1 k (j : Int) cs bs ts ((cs.map chan0).take j)) (R := fun _ => (ts, cs.map chan0, ([] : List S35), true)) (n := cs.length)
    (Ev.one fun k => by
      simp only [spec_SourceNew.l1]
      rw [if_neg (by omega), List.take_of_length_le (by simp)])
    (fun j hj ih => Ev.step (fun k => by
      simp only [spec_SourceNew.l1]
      rw [if_pos (by omega), if_pos (by omega), if_pos (by rw [List.length_take]; omega), wrapS hj (by omega), chan_step cs j hj]) ih)
  exact key 0 (Nat.zero_le _)
theorem spec_SourceNew_ev (cs : List Int) (bs : List (List S192)) (hc : cs.length ≤ 1048576) (hb : bs.length ≤ 1048576) (hbs : ∀ b ∈ bs, b.length ≤ 1048576) : Ev (fun k => spec_SourceNew.f k cs bs) (srcNew cs bs) := by
  simp only [spec_SourceNew.f]
  refine Ev.bind (spec_ProgOk_ev cs bs hc hb hbs) ?_
  unfold srcNew
  by_cases hp : progOk cs bs = true
  case neg => rw [if_neg hp]; exact Ev.ite_neg hp (Ev.now _)
  rw [if_pos hp]
  refine Ev.ite_pos hp ?_
  have key := count_up (L := fun j k => spec_SourceNew.l0 k (j : Int) cs bs (List.replicate j thr0)) (R := fun _ => (List.replicate bs.length thr0, cs.map chan0, ([] : List S35), true)) (n := bs.length)
    (Ev.step (fun k => by
      simp only [spec_SourceNew.l0]
      rw [if_neg (by omega)]) (spec_chans_ev cs bs _ hc))
    (fun j hj ih => Ev.step (fun k => by
      simp only [spec_SourceNew.l0]
      rw [if_pos (by omega), if_pos (by omega), if_pos (by rw [List.length_replicate]; omega), wrapS hj (by omega), thr_step]) ih)
  exact key 0 (Nat.zero_le _)
theorem impl_chans_ev (cs : List Int) (ts : List S107) (h : cs.length ≤ 1048576) : Ev (fun k => impl_SourceNew.l1 k cs (cs.length : Int) 0 ts []) (ts, cs.map chan0, [], true) := by
  have key := count_up (L := fun j k => impl_SourceNew.l1 k cs (cs.length : Int) (j : Int) ts ((cs.map chan0).take j)) (R := fun _ => (ts, cs.map chan0, ([] : List S35), true)) (n := cs.length)
    (Ev.one fun k => by
      simp only [impl_SourceNew.l1]
      rw [if_neg (by omega), List.take_of_length_le (by simp)])
    (fun j hj ih => Ev.step (fun k => by
      simp only [impl_SourceNew.l1]
      rw [if_pos (by omega), if_pos (by omega), if_pos (by omega), if_pos (by rw [List.length_take]; omega), wrapS hj (by omega), chan_step cs j hj]) ih)
  exact key 0 (Nat.zero_le _)
theorem impl_SourceNew_ev (cs : List Int) (bs : List (List S192)) (hc : cs.length ≤ 1048576) (hb : bs.length ≤ 1048576) (hbs : ∀ b ∈ bs, b.length ≤ 1048576) : Ev (fun k => impl_SourceNew.f k cs bs) (srcNew cs bs) := by
  simp only [impl_SourceNew.f]
  refine Ev.bind (impl_ProgOk_ev cs bs hc hb hbs) ?_
  unfold srcNew
  by_cases hp : progOk cs bs = true
  case neg => rw [if_neg hp]; exact Ev.ite_neg hp (Ev.now _)
  rw [if_pos hp]
  refine Ev.ite_pos hp ?_
  have key := count_up (L := fun j k => impl_SourceNew.l0 k (bs.length : Int) (j : Int) cs bs (List.replicate j thr0)) (R := fun _ => (List.replicate bs.length thr0, cs.map chan0, ([] : List S35), true)) (n := bs.length)
    (Ev.step (fun k => by
      simp only [impl_SourceNew.l0]
      rw [if_neg (by omega)]) (impl_chans_ev cs _ hc))
    (fun j hj ih => Ev.step (fun k => by
      simp only [impl_SourceNew.l0]
      rw [if_pos (by omega), if_pos (by omega), if_pos (by rw [List.length_replicate]; omega), wrapS hj (by omega), thr_step]) ih)
  exact key 0 (Nat.zero_le _)
theorem total_rep {α : Type} (w : α → Nat) (x : α) : ∀ n, total w (List.replicate n x) = n * w x
  | 0 => by simp [total]
  | n + 1 => by rw [List.replicate_succ, total, total_rep w x n, Nat.succ_mul]; omega
theorem srcNew_size (cs : List Int) (bs : List (List S192)) : (srcNew cs bs).1.length + total wiThread (srcNew cs bs).1 ≤ 5 * bs.length ∧ (srcNew cs bs).2.1.length + total wiChan (srcNew cs bs).2.1 ≤ cs.length ∧ (srcNew cs bs).2.2.1 = [] ∧ ∀ x ∈ (srcNew cs bs).2.1, x.f1 = [] := by
  unfold srcNew
  by_cases hp : progOk cs bs = true
  case neg => rw [if_neg hp]; exact ⟨by simp [total], by simp [total], rfl, by simp⟩
  rw [if_pos hp]
  have e : ∀ cs : List Int, total wiChan (cs.map chan0) = 0 := by
    intro cs
    induction cs with
    | nil => rfl
    | cons c cs ih => rw [List.map_cons, total, ih]; rfl
  refine ⟨?_, ?_, rfl, fun x hx => ?_⟩
  · show (List.replicate bs.length thr0).length + total wiThread (List.replicate bs.length thr0) ≤ _
    rw [List.length_replicate, total_rep]
    have : wiThread thr0 = 4 := rfl
    rw [this]
    omega
  · show (cs.map chan0).length + total wiChan (cs.map chan0) ≤ _
    rw [List.length_map, e]
    omega
  · obtain ⟨c, _, rfl⟩ := List.mem_map.1 hx
    rfl
theorem wsum_ins (xs : List S192) : Marks.wsum wt192 xs ≤ 5 * xs.length + total (fun _ => 0) xs := wsum_le _ _ 5 xs (fun x _ => by simp only [wt192]; omega)
theorem wsum_bodies : ∀ bs : List (List S192), Marks.wsum (Marks.wsum wt192) bs ≤ 5 * total (fun b => b.length) bs
  | [] => by simp [Marks.wsum]
  | b :: bs => by
    have h1 := wsum_ins b
    rw [total_zero] at h1
    have h2 := wsum_bodies bs
    rw [Marks.wsum, total]
    omega
theorem FnExactSourceNew (x0_0 : (List Int)) (x0_1 : (List (List S208))) (ok0 : ((x0_0.length ≤ maxLen ∧ ∀ z ∈ x0_0, ((Lit.int .i64 z).wf = true)) ∧ (x0_1.length ≤ maxLen ∧ ∀ z ∈ x0_1, (z.length ≤ maxLen ∧ ∀ z' ∈ z, (((Lit.int .i64 z'.f0).wf = true) ∧ (((Lit.int .i64 z'.f1).wf = true) ∧ (((Lit.int .i64 z'.f2).wf = true) ∧ (((Lit.int .i64 z'.f3).wf = true) ∧ ((Lit.int .i64 z'.f4).wf = true))))))))) : ∃ k, laws_FnExactSourceNew.f k x0_0 x0_1 = some true := by
  refine Ev.rounds (g := fun k => laws_FnExactSourceNew.f k x0_0 x0_1) ?_
  simp only [laws_FnExactSourceNew.f]
  refine Ev.bind (szProg_ev x0_0 x0_1 1048576 (by omega) (by omega) ⟨(by have := ((ok0).1).1; unfold maxLen at this; omega), ⟨(by have := ((ok0).2).1; unfold maxLen at this; omega), fun x0_ h0_ => (by have := (((ok0).2).2 x0_ h0_).1; unfold maxLen at this; omega)⟩⟩) ?_
  by_cases h : ((x0_0.length + (x0_1.length + total wlInsS x0_1) : Nat) : Int) ≤ 1048576
  case neg => rw [left?_no h]; exact Ev.ite_pos (by omega) (Ev.now _)
  rw [left?_yes h]
  refine Ev.ite_neg (by omega) ?_
  obtain ⟨hb, hbs⟩ := bodies_small x0_1 (by omega)
  have hbe := bodies_eq x0_1 (by omega)
  have hto := toProg_ev x0_0 x0_1 (by omega) (by omega)
  obtain ⟨z1, z2, z3, z4⟩ := srcNew_size x0_0 (x0_1.map cvInsS)
  have w1 := wsum_bodies (x0_1.map cvInsS)
  have w2 := wsum_threads (srcNew x0_0 (x0_1.map cvInsS)).1
  have w3 := wsum_chans (srcNew x0_0 (x0_1.map cvInsS)).2.1
  have w4 : total (fun b => b.length) (x0_1.map cvInsS) = total wiInsS (x0_1.map cvInsS) := rfl
  have hg := eqSource_big (srcNew x0_0 (x0_1.map cvInsS)).1 (srcNew x0_0 (x0_1.map cvInsS)).2.1 (srcNew x0_0 (x0_1.map cvInsS)).2.2.1 (by omega) (by omega) (by rw [z3]; decide)
  have spe := spec_SourceNew_ev x0_0 (x0_1.map cvInsS) (by omega) hb hbs
  have ime := impl_SourceNew_ev x0_0 (x0_1.map cvInsS) (by omega) hb hbs
  refine Ev.bind hto ?_
  refine Ev.bind spe ?_
  refine Ev.bind hto ?_
  refine Ev.bind ime ?_
  refine Ev.ite_pos rfl (Ev.ite_pos z4 ?_)
  refine Ev.bind hg (Ev.ite_pos rfl ?_)
  refine Ev.bind hto ?_
  refine Ev.bind (eqProg_self x0_0 (x0_1.map cvInsS) (by omega) hbe) (Ev.ite_pos rfl ?_)
  refine Ev.if_le (by rw [wsum_one]; dsimp only; omega) ?_
  refine Ev.bind hg (Ev.ite_pos rfl ?_)
  refine Ev.if_le (by rw [z3]; simp only [Marks.wsum]; omega) ?_
  refine Ev.bind hto ?_
  refine Ev.bind ime ?_
  refine Ev.ite_pos rfl (Ev.ite_pos z4 ?_)
  refine Ev.bind hg (Ev.ite_pos rfl ?_)
  exact Ev.now _
end Go.Proofs.Ytobachfngmpeiaa.Pure
namespace Go.Proofs.Ytobachfngmpeiaa.Rd
open Go.RowKit Go.Proofs.YtobachfngmpeiaaW.PrintWords Go.ChangeShapes Go.WideShapes
set_option linter.unusedVariables false
def Opens {α : Type} (P : Program) (t : TypeId) (d : Kd α) (ok : α → Prop) : Prop :=
  ∀ (H : Type) (enc : TypeId × Value → H) (w : World) (base : Nat) (spare : Nat → Bool) (held : Bool) (fuel : Nat) (cs : List Value) (x : DataW H × List MemPlace),
    DataW.trod enc P w base spare held fuel t cs = some x → ∃ y, d.K w y cs ∧ ok y
theorem Opens.int {P : Program} {t : TypeId} {k : IntKind} (ht : P.underlying t = some (.int k)) : Opens P t (Kd.int k) (fun n => (Lit.int k n).wf = true) := by
  intro H enc w base spare held fuel cs x h
  obtain ⟨n, rfl, _, hw⟩ := DataW.trod_int ht h
  exact ⟨n, rfl, hw⟩
theorem Opens.bool {P : Program} {t : TypeId} (ht : P.underlying t = some .bool) : Opens P t Kd.bool (fun _ => True) := by
  intro H enc w base spare held fuel cs x h
  obtain ⟨n, rfl, _⟩ := DataW.trod_bool ht h
  exact ⟨n, rfl, trivial⟩
theorem Opens.weaken {α : Type} {P : Program} {t : TypeId} {d : Kd α} {ok ok' : α → Prop} (h : Opens P t d ok) (hk : ∀ x, ok x → ok' x) : Opens P t d ok' := by
  intro H enc w base spare held fuel cs x hx
  obtain ⟨y, hy, o⟩ := h H enc w base spare held fuel cs x hx
  exact ⟨y, hy, hk y o⟩
theorem list_of {α : Type} {Q : Nat → α → Prop} : ∀ n : Nat, (∀ i, i < n → ∃ y, Q i y) → ∃ ys : List α, ys.length = n ∧ ∀ i y, ys[i]? = some y → Q i y := by
  intro n
  induction n with
  | zero => exact fun _ => ⟨[], rfl, fun i y h => by simp at h⟩
  | succ n ih =>
    intro h
    obtain ⟨ys, hl, hq⟩ := ih (fun i hi => h i (by omega))
    obtain ⟨y, hy⟩ := h n (by omega)
    refine ⟨ys ++ [y], by simp [hl], fun i z hz => ?_⟩
    rcases Nat.lt_or_ge i ys.length with hi | hi
    · rw [List.getElem?_append_left hi] at hz
      exact hq i z hz
    · rw [List.getElem?_append_right hi] at hz
      have h0 : i - ys.length = 0 := by
        have := (List.getElem?_eq_some_iff.1 hz).1
        simp at this
        omega
      rw [h0] at hz
      simp at hz
      subst hz
      have : i = n := by omega
      rw [this]
      exact hy
theorem Opens.slice {α : Type} {P : Program} {t e : TypeId} (q : Nat) {d : Kd α} {ok : α → Prop} (ht : P.underlying t = some (.slice e)) (hs : P.cellsOf e = d.sz) (he : Opens P e d ok) :
    Opens P t (Kd.slice q d) (fun xs => xs.length ≤ maxLen ∧ ∀ x ∈ xs, ok x) := by
  intro H enc w base spare held fuel cs x h
  rcases DataW.trod_slice ht h with ⟨rfl, _⟩ | ⟨a, len, cap, elems, rest, n, _, rfl, _, _, hl, hm, hlen, hel, _, _⟩
  · exact ⟨[], ⟨none, 0, rfl, Nat.le_refl _, rfl, by simp, fun hp => absurd hp (by simp)⟩, by simp, by simp⟩
  · have each : ∀ i, i < len → ∃ y, ∃ c, w.cells? base (a.add (i * d.sz)) d.sz = some c ∧ d.K w y c ∧ ok y := by
      intro i hi
      have h1 := hel i hi
      rw [List.getElem?_eq_getElem (by omega), Option.bind_eq_some_iff, hs] at h1
      obtain ⟨c, hc, hx⟩ := h1
      obtain ⟨y, hy, ho⟩ := he H enc w base spare held n c _ hx
      exact ⟨y, c, hc, hy, ho⟩
    obtain ⟨ys, hyl, hq⟩ := list_of len each
    have hm' : len ≤ 9223372036854775807 := by unfold maxLen at hm; omega
    refine ⟨ys, ⟨some a, cap, by rw [hyl], by omega, rfl, by omega, fun _ => ⟨a, rfl, fun j p hj => ?_⟩⟩, by omega, fun y hy => ?_⟩
    · obtain ⟨c, hc, hk, _⟩ := hq j p hj
      obtain ⟨_, hcl, hcell⟩ := World.cells?_some hc
      refine ⟨c, hcl, hk, fun i u hu => ?_⟩
      have hi : i < d.sz := by
        have := (List.getElem?_eq_some_iff.1 hu).1
        omega
      rw [← Addr.add_add, hcell i hi, hu]
    · obtain ⟨i, hi⟩ := List.getElem?_of_mem hy
      obtain ⟨c, _, _, ho⟩ := hq i y hi
      exact ho
def OpensAt {α : Type} (P : Program) (fs : List Field) (off : Nat) (d : Kd α) (ok : α → Prop) : Prop :=
  ∀ (H : Type) (enc : TypeId × Value → H) (w : World) (base : Nat) (spare : Nat → Bool) (held : Bool) (n : Nat) (cs : List Value), cs.length = off + d.sz →
    (∀ f ∈ fs, ∃ y, DataW.trod enc P w base spare held n f.type ((cs.drop f.offset).take (P.cellsOf f.type)) = some y) → ∃ y, d.K w y (cs.drop off) ∧ ok y
theorem OpensAt.one {α : Type} {P : Program} {f : Field} {off : Nat} {d : Kd α} {ok : α → Prop} (ho : f.offset = off) (hs : P.cellsOf f.type = d.sz) (h : Opens P f.type d ok) : OpensAt P [f] off d ok := by
  intro H enc w base spare held n cs hl hf
  obtain ⟨x, hx⟩ := hf f (by simp)
  rw [ho, hs, List.take_of_length_le (by simp; omega)] at hx
  exact h _ _ _ _ _ _ _ _ _ hx
theorem OpensAt.cons {α β : Type} {P : Program} {f : Field} {fs : List Field} {off : Nat} {a : Kd α} {b : Kd β} {oka : α → Prop} {okb : β → Prop} (ho : f.offset = off) (hs : P.cellsOf f.type = a.sz) (h : Opens P f.type a oka)
    (hr : OpensAt P fs (off + a.sz) b okb) : OpensAt P (f :: fs) off (Kd.pair a b) (fun x => oka x.1 ∧ okb x.2) := by
  intro H enc w base spare held n cs hl hf
  obtain ⟨x, hx⟩ := hf f (by simp)
  rw [ho, hs] at hx
  obtain ⟨y, hy, oy⟩ := h _ _ _ _ _ _ _ _ _ hx
  have hl' : cs.length = (off + a.sz) + b.sz := by rw [hl]; show off + (a.sz + b.sz) = _; omega
  obtain ⟨z, hz, oz⟩ := hr H enc w base spare held n cs hl' (fun g hg => hf g (by simp [hg]))
  refine ⟨(y, z), ⟨_, _, ?_, hy, hz⟩, oy, oz⟩
  rw [← List.drop_drop]
  exact (List.take_append_drop _ _).symm
theorem Opens.struct {α : Type} {P : Program} {t : TypeId} {fs : List Field} {d : Kd α} {ok : α → Prop} (ht : P.underlying t = some (.struct (List.toArray fs))) (hs : P.cellsOf t = d.sz) (h : OpensAt P fs 0 d ok) : Opens P t d ok := by
  intro H enc w base spare held fuel cs x hx
  obtain ⟨xs, n, _, _, hl, hlen, hf⟩ := DataW.trod_struct ht hx
  obtain ⟨y, hy, oy⟩ := h H enc w base spare held n cs (by omega) (fun f hm => by
    obtain ⟨i, hi⟩ := List.getElem?_of_mem hm
    have hi' : (List.toArray fs)[i]? = some f := by simpa using hi
    have h1 := hf i f hi'
    have hlt : i < xs.length := by
      have := (Array.getElem?_eq_some_iff.1 hi').1
      omega
    rw [List.getElem?_eq_getElem hlt] at h1
    exact ⟨_, h1⟩)
  exact ⟨y, by simpa using hy, oy⟩
theorem Opens.iso {α β : Type} {P : Program} {t : TypeId} {d : Kd α} {ok : α → Prop} (f : β → α) (g : α → β) (hg : ∀ x, f (g x) = x) (h : Opens P t d ok) : Opens P t (Kd.iso d f) (fun y => ok (f y)) := by
  intro H enc w base spare held fuel cs x hx
  obtain ⟨y, hy, o⟩ := h H enc w base spare held fuel cs x hx
  refine ⟨g y, ?_, ?_⟩
  · show d.K w (f (g y)) cs
    rw [hg]
    exact hy
  · show ok (f (g y))
    rw [hg]
    exact o
theorem Opens.at_struct {α : Type} {P : Program} {t : TypeId} {d : Kd α} {ok : α → Prop} (h : Opens P t d ok) {H : Type} {enc : TypeId × Value → H} {w : World} {base : Nat} {spare : Nat → Bool} {held : Bool} {v : Value} {x : DataW H} {ps : List MemPlace}
    {fs : Array Field} {r : Reach} {b0 : Nat} (hu : P.underlying t = some (.struct fs)) (hv : Value.okWide P w r b0 t v) (hx : DataW.Trod enc P w base spare held t v x ps) : ∃ y cs, v = .agg (List.toArray cs) ∧ d.K w y cs ∧ ok y := by
  obtain ⟨cs, rfl, _⟩ := okWide_struct hu hv
  obtain ⟨fuel, hf⟩ := hx
  obtain ⟨y, hK, o⟩ := h _ _ _ _ _ _ _ _ _ hf
  exact ⟨y, cs.toList, by simp, by simpa [Value.cells] using hK, o⟩
end Go.Proofs.Ytobachfngmpeiaa.Rd
