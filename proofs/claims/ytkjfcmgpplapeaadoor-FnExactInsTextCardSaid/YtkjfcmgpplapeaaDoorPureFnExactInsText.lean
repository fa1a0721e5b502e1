/- The program's InsText answers what the reference's does: the printed law's function is true for all places. -/
import Derived.Test.YtkjfcmgpplapeaaDoorPFnExactInsTextx9
import Derived.Test.YtkjfcmgpplapeaaDoorLp
namespace Go.Proofs.YtkjfcmgpplapeaaDoor.Pure
open Go.RowKit Go.Proofs.YtkjfcmgpplapeaaDoor.PFnExactInsText Go.Proofs.YtkjfcmgpplapeaaDoorW.PrintWords Go.Proofs.YtkjfcmgpplapeaaDoorW.PrintLast Go.Proofs.YtkjfcmgpplapeaaDoor.Lp
set_option linter.unusedVariables false
set_option linter.unusedSimpArgs false

/-- lo .. hi. -/
def inn (a lo hi : Int) : Bool := decide (lo ≤ a ∧ a ≤ hi)

theorem spec_l1In_eq (a lo hi : Int) : spec_l1In.f a lo hi = some (inn a lo hi) := by
  unfold spec_l1In.f inn
  by_cases h : a ≥ lo
  · rw [if_pos h]; congr 1; simp; omega
  · rw [if_neg h, decide_eq_false (by omega)]

theorem impl_within_eq (a lo hi : Int) : impl_within.f a lo hi = some (inn a lo hi) := by
  unfold impl_within.f inn
  by_cases h : a ≥ lo
  · rw [if_pos h]; congr 1; simp; omega
  · rw [if_neg h, decide_eq_false (by omega)]

/-- What a right place is, for so many places and channels. -/
def InsR (op r a b n p c : Int) : Prop :=
  (0 ≤ r ∧ r ≤ 3) ∧ (0 ≤ a ∧ a ≤ 3) ∧ (0 ≤ b ∧ b ≤ 3) ∧ (0 ≤ c ∧ c ≤ 3) ∧
  ((op = 1 ∧ (-1000000000 ≤ n ∧ n ≤ 1000000000) ∧ a = 0 ∧ b = 0) ∨ ((op = 2 ∨ op = 3 ∨ op = 4) ∧ n = 0) ∨ (op = 5 ∧ (0 ≤ n ∧ n < c) ∧ r = 0 ∧ b = 0) ∨
   ((op = 6 ∨ op = 8) ∧ (0 ≤ n ∧ n < c) ∧ a = 0 ∧ r ≠ b) ∨ (op = 7 ∧ (0 ≤ n ∧ n < c) ∧ b = 0) ∨ (op = 9 ∧ (0 ≤ n ∧ n < c) ∧ r = 0 ∧ a = 0 ∧ b = 0) ∨ (op = 10 ∧ r = 0 ∧ b = 0 ∧ n = 0) ∨
   (op = 11 ∧ (0 ≤ n ∧ n < p) ∧ r = 0 ∧ a = 0 ∧ b = 0) ∨ (op = 12 ∧ (0 ≤ n ∧ n < p) ∧ r = 0 ∧ b = 0) ∨ (op = 13 ∧ r = 0 ∧ a = 0 ∧ b = 0 ∧ n = 0))
instance (op r a b n p c : Int) : Decidable (InsR op r a b n p c) := by unfold InsR; infer_instance
def insOk (op r a b n p c : Int) : Bool := decide (InsR op r a b n p c)
theorem op_cases (op : Int) : op = 1 ∨ op = 2 ∨ op = 3 ∨ op = 4 ∨ op = 5 ∨ op = 6 ∨ op = 7 ∨ op = 8 ∨ op = 9 ∨ op = 10 ∨ op = 11 ∨ op = 12 ∨ op = 13 ∨ (op < 1 ∨ 13 < op) := by omega
theorem wrap_pred {p : Int} (h0 : -9223372036854775807 ≤ p) (h1 : p ≤ 9223372036854775807) : wrap64 (p - 1) = p - 1 := wrap_in (by omega) (by omega)

theorem spec_InsOk_ev (op r a b n p c : Int) : Ev (fun k => spec_InsOk.f k op r a b n p c) (insOk op r a b n p c) := by
  refine ⟨5, fun k hk => ?_⟩
  obtain ⟨m, rfl⟩ : ∃ m, k = m + 5 := ⟨k - 5, by omega⟩
  by_cases hcc : 0 ≤ c ∧ c ≤ 3
  case neg =>
    have h' : ¬ InsR op r a b n p c := by unfold InsR; omega
    simp only [spec_InsOk.f, spec_InsOk.j0, spec_l1In_eq, Option.bind_some, inn, insOk, decide_eq_false hcc, decide_eq_false h', Bool.not_false, if_true]
    repeat' split
    all_goals rfl
  have hc : -9223372036854775807 ≤ c := by omega
  have hc' : c ≤ 9223372036854775807 := by omega
  simp only [spec_InsOk.f, spec_InsOk.j0, spec_InsOk.j1, spec_InsOk.j2, spec_InsOk.j3, spec_l1In_eq, Option.bind_some, inn, insOk, decide_eq_true_eq, wrap_pred hc hc']
  rcases op_cases op with rfl | rfl | rfl | rfl | rfl | rfl | rfl | rfl | rfl | rfl | rfl | rfl | rfl | h
  case inr.inr.inr.inr.inr.inr.inr.inr.inr.inr.inr.inr.inr =>
    have h' : ¬ InsR op r a b n p c := by unfold InsR; omega
    have h4 : (op == 4) = false := by simpa using (show ¬ op = 4 by omega)
    have h8 : (op == 8) = false := by simpa using (show ¬ op = 8 by omega)
    simp only [if_neg (show ¬ op = 1 by omega), if_neg (show ¬ op = 2 by omega), if_neg (show ¬ op = 3 by omega), if_neg (show ¬ op = 5 by omega), if_neg (show ¬ op = 6 by omega), if_neg (show ¬ op = 7 by omega), if_neg (show ¬ op = 9 by omega), if_neg (show ¬ op = 10 by omega), if_neg (show ¬ op = 11 by omega), if_neg (show ¬ op = 12 by omega), if_neg (show ¬ op = 13 by omega), decide_eq_false h', h4, h8, Bool.false_eq_true, if_false]
    repeat' split
    all_goals rfl
  all_goals
    simp only [InsR]
    simp
    repeat' split
    all_goals first
      | (congr 1; rw [Bool.eq_iff_iff]; simp; omega)
      | (simp; omega)

theorem impl_isReg_eq (a : Int) : impl_isReg.f a = some (inn a 0 3) := by simp [impl_isReg.f, impl_within_eq]
theorem impl_ofChan_eq (a : Int) : impl_ofChan.f a = some (inn a 5 9) := by simp [impl_ofChan.f, impl_within_eq]
theorem impl_InsOk_ev (op r a b n p c : Int) (hp : -9223372036854775807 ≤ p) (hp' : p ≤ 9223372036854775807) : Ev (fun k => impl_InsOk.f k op r a b n p c) (insOk op r a b n p c) := by
  refine ⟨8, fun k hk => ?_⟩
  obtain ⟨m, rfl⟩ : ∃ m, k = m + 8 := ⟨k - 8, by omega⟩
  by_cases hcc : 0 ≤ c ∧ c ≤ 3
  case neg =>
    have h' : ¬ InsR op r a b n p c := by unfold InsR; omega
    simp only [impl_InsOk.f, impl_InsOk.j0, impl_within_eq, Option.bind_some, inn, insOk, decide_eq_false hcc, decide_eq_false h', Bool.false_eq_true, if_false, if_true]
  have hc : -9223372036854775807 ≤ c := by omega
  have hc' : c ≤ 9223372036854775807 := by omega
  simp only [impl_InsOk.f, impl_InsOk.j0, impl_InsOk.j1, impl_InsOk.j2, impl_named.f, impl_named.j0, impl_named.j1, impl_named.j2, impl_named.j3, impl_isReg_eq, impl_ofChan_eq, impl_within_eq, Option.bind_some, inn, insOk, decide_eq_true_eq, wrap_pred hc hc', wrap_pred hp hp']
  rcases op_cases op with rfl | rfl | rfl | rfl | rfl | rfl | rfl | rfl | rfl | rfl | rfl | rfl | rfl | h
  case inr.inr.inr.inr.inr.inr.inr.inr.inr.inr.inr.inr.inr =>
    have h' : ¬ InsR op r a b n p c := by unfold InsR; omega
    simp only [if_neg (show ¬ (1 ≤ op ∧ op ≤ 13) by omega), decide_eq_false h', if_true]
    repeat' split
    all_goals rfl
  all_goals
    simp only [InsR]
    simp
    repeat' split
    all_goals first
      | (congr 1; rw [Bool.eq_iff_iff]; simp; omega)
      | (simp; omega)

/-- A number in decimal digits. -/
def num (n : Int) : ByteArray := ⟨(Lib.itoa n).toArray⟩
/-- A number of 64 bits. -/
def In64 (n : Int) : Prop := -9223372036854775808 ≤ n ∧ n ≤ 9223372036854775807
theorem num_size {n : Int} (h : In64 n) : (num n).size ≤ 21 := by
  show (Lib.itoa n).toArray.size ≤ 21
  rw [List.size_toArray]
  exact Lib.itoa_length_le n h.1 h.2
theorem impl_digits_eq {n : Int} (h : In64 n) : impl_digits.f n = some (num n) := if_pos h
theorem ba_append (a b : List UInt8) : (⟨a.toArray⟩ : ByteArray) ++ ⟨b.toArray⟩ = ⟨(a ++ b).toArray⟩ := by
  apply ByteArray.ext
  rw [ByteArray.data_append]
  simp
/-- The digits of a number; none of nought. -/
def dd (u : Nat) : List UInt8 := if u = 0 then [] else Lib.decDigits u
theorem dd_step {u : Nat} (h : u ≠ 0) : dd u = dd (u / 10) ++ [UInt8.ofNat (48 + u % 10)] := by
  unfold dd
  rw [if_neg h]
  by_cases c : u < 10
  · rw [if_pos (by omega), Lib.decDigits, dif_pos c, Nat.mod_eq_of_lt c]
    rfl
  · rw [if_neg (by omega), Lib.decDigits, dif_neg c]
theorem dd_length : ∀ {k u : Nat}, u < 10 ^ k → (dd u).length ≤ k
  | 0, u, h => by
    obtain rfl : u = 0 := by simpa using h
    simp [dd]
  | k + 1, u, h => by
    by_cases c : u = 0
    · subst c; simp [dd]
    · rw [dd_step c, List.length_append, List.length_singleton]
      have := dd_length (k := k) (u := u / 10) (by rw [Nat.pow_succ] at h; omega)
      omega
theorem one_char (d : Nat) (h : d < 10) : strOfNums [(48 + (d : Int)) % 256] = ⟨[UInt8.ofNat (48 + d)].toArray⟩ := by
  unfold strOfNums
  rw [List.map_cons, List.map_nil, show ((48 + (d : Int)) % 256).toNat = 48 + d by omega]
theorem digits_loop : ∀ (u : Nat) (x : Int) (neg : Bool) (s : ByteArray), x.natAbs = u → In64 x → s.size + (dd u).length ≤ 100 → Ev (fun k => spec_l2Digits.l0 k x neg s) ((if neg = true then (⟨#[45]⟩ : ByteArray) else ByteArray.empty) ++ (⟨(dd u).toArray⟩ ++ s)) := by
  intro u
  induction u using Nat.strongRecOn with
  | ind u ih =>
    intro x neg s hx hr hs
    by_cases h0 : x = 0
    · subst h0
      obtain rfl : u = 0 := by simpa using hx.symm
      have e0 : (⟨(dd 0).toArray⟩ : ByteArray) ++ s = s := ByteArray.empty_append
      rw [e0]
      refine Ev.step (fun k => by rw [spec_l2Digits.l0]) ?_
      refine Ev.ite_pos rfl ?_
      cases neg with
      | true => exact Ev.ite_pos rfl (Ev.ite_pos (by omega) (Ev.now _))
      | false =>
        refine Ev.ite_neg (by simp) ?_
        rw [if_neg (by simp), ByteArray.empty_append]
        exact Ev.now _
    · have hu : u ≠ 0 := by omega
      have hd : (dd u).length = (dd (u / 10)).length + 1 := by rw [dd_step hu]; simp
      have hsz : (strOfNums [(48 + ((u % 10 : Nat) : Int)) % 256]).size = 1 := by rw [one_char _ (by omega)]; rfl
      have next : ∀ y : Int, y.natAbs = u / 10 → In64 y → Ev (fun k => spec_l2Digits.l0 k y neg (strOfNums [(48 + ((u % 10 : Nat) : Int)) % 256] ++ s)) ((if neg = true then (⟨#[45]⟩ : ByteArray) else ByteArray.empty) ++ (⟨(dd u).toArray⟩ ++ s)) := by
        intro y hy hry
        refine Ev.val ?_ (ih (u / 10) (by omega) y neg _ hy hry (by rw [ByteArray.size_append, hsz]; omega))
        rw [one_char _ (by omega), dd_step hu, ← ba_append, ByteArray.append_assoc]
      refine Ev.step (fun k => by rw [spec_l2Digits.l0]) ?_
      refine Ev.ite_neg h0 ?_
      simp only [Option.bind_some]
      unfold In64 at hr
      rcases Int.le_total 0 x with hp | hp
      · obtain rfl : x = (u : Int) := by omega
        have em : Int.tmod (u : Int) 10 = ((u % 10 : Nat) : Int) := by rw [Int.tmod_eq_emod_of_nonneg (by omega)]; omega
        have ed : Int.tdiv (u : Int) 10 = ((u / 10 : Nat) : Int) := by rw [Int.tdiv_eq_ediv_of_nonneg (by omega)]; omega
        rw [em, ed]
        refine Ev.ite_neg (by omega) ?_
        rw [wrap_in (n := 48 + ((u % 10 : Nat) : Int)) (by omega) (by omega), wrap_in (n := ((u / 10 : Nat) : Int)) (by omega) (by omega)]
        refine Ev.ite_pos (by rw [hsz]; omega) ?_
        exact next _ (by omega) ⟨by omega, by omega⟩
      · obtain ⟨v, hv⟩ : ∃ v : Nat, v = u := ⟨u, rfl⟩
        obtain rfl : x = -(u : Int) := by omega
        have em : Int.tmod (-(u : Int)) 10 = -((u % 10 : Nat) : Int) := by rw [Int.neg_tmod, Int.tmod_eq_emod_of_nonneg (by omega)]; omega
        have ed : Int.tdiv (-(u : Int)) 10 = -((u / 10 : Nat) : Int) := by rw [Int.neg_tdiv, Int.tdiv_eq_ediv_of_nonneg (by omega)]; omega
        rw [em, ed, Int.neg_neg]
        have e3 : wrap64 (-((u / 10 : Nat) : Int)) = -((u / 10 : Nat) : Int) := wrap_in (by omega) (by omega)
        by_cases hz : -((u % 10 : Nat) : Int) < 0
        · refine Ev.ite_pos hz ?_
          rw [wrap_in (n := ((u % 10 : Nat) : Int)) (by omega) (by omega), wrap_in (n := 48 + ((u % 10 : Nat) : Int)) (by omega) (by omega), e3]
          refine Ev.ite_pos (by rw [hsz]; omega) ?_
          exact next _ (by omega) ⟨by omega, by omega⟩
        · refine Ev.ite_neg hz ?_
          have e0 : ((u % 10 : Nat) : Int) = 0 := by omega
          rw [show -((u % 10 : Nat) : Int) = ((u % 10 : Nat) : Int) by omega, wrap_in (n := 48 + ((u % 10 : Nat) : Int)) (by omega) (by omega), e3]
          refine Ev.ite_pos (by rw [hsz]; omega) ?_
          exact next _ (by omega) ⟨by omega, by omega⟩
theorem spec_l2Digits_ev {n : Int} (h : In64 n) : Ev (fun k => spec_l2Digits.f k n) (num n) := by
  simp only [spec_l2Digits.f]
  by_cases h0 : n = 0
  · subst h0
    refine Ev.ite_pos rfl ?_
    refine Ev.val (r := (⟨#[48]⟩ : ByteArray)) ?_ (Ev.now _)
    unfold num Lib.itoa
    rw [if_neg (by omega), Int.toNat_zero, Lib.decDigits, dif_pos (by omega)]
    rfl
  · refine Ev.ite_neg h0 ?_
    have hd : (dd n.natAbs).length ≤ 19 := dd_length (by unfold In64 at h; omega)
    refine Ev.val ?_ (digits_loop n.natAbs n (decide (n < 0)) (⟨#[]⟩ : ByteArray) rfl h (by show 0 + _ ≤ 100; omega))
    have e : ∀ x : ByteArray, x ++ (⟨#[]⟩ : ByteArray) = x := fun x => ByteArray.append_empty
    rw [e]
    unfold num Lib.itoa dd
    rw [if_neg (c := n.natAbs = 0) (by omega)]
    by_cases hn : n < 0
    · rw [if_pos (by simpa using hn), if_pos hn]
      exact ba_append [45] _
    · rw [if_neg (by simpa using hn), if_neg hn, ByteArray.empty_append, show n.toNat = n.natAbs by omega]

/-- Words: one and numbers behind it. -/
def wordsOf (b : ByteArray) : List Int → ByteArray
  | [] => b
  | n :: l => wordsOf (b ++ ((⟨#[32]⟩ : ByteArray) ++ num n)) l
theorem wordsOf_end : ∀ (l : List Int) (b : ByteArray) (n : Int), wordsOf b (l ++ [n]) = wordsOf b l ++ ((⟨#[32]⟩ : ByteArray) ++ num n)
  | [], _, _ => rfl
  | _ :: l, _, n => wordsOf_end l _ n
theorem sp_size {n : Int} (h : In64 n) : ((⟨#[32]⟩ : ByteArray) ++ num n).size ≤ 22 := by
  rw [ByteArray.size_append]
  have := num_size h
  have e : (⟨#[32]⟩ : ByteArray).size = 1 := rfl
  omega
theorem wordsOf_size : ∀ (l : List Int) (b : ByteArray), (∀ n ∈ l, In64 n) → (wordsOf b l).size ≤ b.size + 22 * l.length
  | [], b, _ => by simp [wordsOf]
  | n :: l, b, h => by
    have h1 := wordsOf_size l (b ++ ((⟨#[32]⟩ : ByteArray) ++ num n)) (fun m hm => h m (List.mem_cons_of_mem _ hm))
    have h2 := sp_size (h n (List.mem_cons_self ..))
    rw [wordsOf, List.length_cons]
    rw [ByteArray.size_append] at h1
    omega
theorem wordsOf_take {l : List Int} {b : ByteArray} {j : Nat} (h : j < l.length) : wordsOf b (l.take (j + 1)) = wordsOf b (l.take j) ++ ((⟨#[32]⟩ : ByteArray) ++ num l[j]) := by
  rw [List.take_succ_eq_append_getElem h, wordsOf_end]
theorem take_size {l : List Int} {b : ByteArray} {j : Nat} (h : j < l.length) (hl : ∀ n ∈ l, In64 n) (hb : b.size + 22 * l.length ≤ 1000000000) : (wordsOf b (l.take j)).size ≤ 1000000000 - 22 := by
  have := wordsOf_size (l.take j) b (fun n hn => hl n (List.mem_of_mem_take hn))
  rw [List.length_take] at this
  omega
theorem impl_words_ev (b : ByteArray) (l : List Int) (hl : ∀ n ∈ l, In64 n) (hb : b.size + 22 * l.length ≤ 1000000000) : Ev (fun k => impl_words.f k b l) (wordsOf b l) := by
  have key := count_up (L := fun j k => impl_words.l0 k (wordsOf b (l.take j)) l (l.length : Int) (j : Int)) (R := fun _ => wordsOf b l) (n := l.length)
    (Ev.one fun k => by rw [impl_words.l0, if_neg (by omega), List.take_length])
    (fun j hj ih => by
      have h1 := hl l[j] (List.getElem_mem hj)
      have h2 := sp_size h1
      have h3 := num_size h1
      have h4 := take_size hj hl hb
      exact Ev.step (fun k => by rw [impl_words.l0, if_pos (by omega), if_pos (by omega), if_pos (by omega), rd_get hj, impl_digits_eq h1, Option.bind_some, if_pos (by omega), if_pos (by omega), ← wordsOf_take hj, wrapS hj (by omega)]) ih)
  exact key 0 (Nat.zero_le _)

/-- The name of a place's kind, its numbers as they are written, and how it is written. -/
def nameOf (op : Int) : ByteArray := ([(⟨#[]⟩ : ByteArray), (⟨#[115, 101, 116]⟩ : ByteArray), (⟨#[97, 100, 100]⟩ : ByteArray), (⟨#[115, 117, 98]⟩ : ByteArray), (⟨#[108, 101, 115, 115]⟩ : ByteArray), (⟨#[115, 101, 110, 100]⟩ : ByteArray), (⟨#[116, 97, 107, 101]⟩ : ByteArray), (⟨#[116, 114, 121, 115, 101, 110, 100]⟩ : ByteArray), (⟨#[116, 114, 121, 116, 97, 107, 101]⟩ : ByteArray), (⟨#[99, 108, 111, 115, 101]⟩ : ByteArray), (⟨#[112, 114, 105, 110, 116]⟩ : ByteArray), (⟨#[106, 117, 109, 112]⟩ : ByteArray), (⟨#[122, 101, 114, 111]⟩ : ByteArray), (⟨#[101, 110, 100]⟩ : ByteArray)] : List ByteArray).getD op.toNat ByteArray.empty
def numsOf (op r a b n : Int) : List Int :=
  if op = 1 then [r, n] else if op = 2 ∨ op = 3 ∨ op = 4 then [r, a, b] else if op = 5 then [n, a] else if op = 6 ∨ op = 8 then [r, b, n] else if op = 7 then [r, n, a] else if op = 9 ∨ op = 11 then [n] else if op = 10 then [a] else if op = 12 then [a, n] else []
def insText (op r a b n : Int) : ByteArray := if insOk op r a b n 24 3 = true then wordsOf (nameOf op) (numsOf op r a b n) else (⟨#[]⟩ : ByteArray)
theorem nameOf_size (op : Int) (h0 : 1 ≤ op) (h1 : op ≤ 13) : (nameOf op).size ≤ 8 := by
  rcases op_cases op with rfl | rfl | rfl | rfl | rfl | rfl | rfl | rfl | rfl | rfl | rfl | rfl | rfl | h
  all_goals first
    | (show _ ≤ 8; decide)
    | omega
theorem numsOf_length (op r a b n : Int) : (numsOf op r a b n).length ≤ 3 := by
  unfold numsOf
  repeat' split
  all_goals simp
theorem ins_in {op r a b n : Int} (h : insOk op r a b n 24 3 = true) : (1 ≤ op ∧ op ≤ 13) ∧ In64 r ∧ In64 a ∧ In64 b ∧ In64 n := by
  unfold insOk at h
  rw [decide_eq_true_eq] at h
  obtain ⟨h1, h2, h3, h4, h5⟩ := h
  unfold In64
  rcases h5 with h | h | h | h | h | h | h | h | h | h <;> omega
theorem numsOf_in {op r a b n : Int} (h : insOk op r a b n 24 3 = true) : ∀ m ∈ numsOf op r a b n, In64 m := by
  obtain ⟨_, hr, ha, hb, hn⟩ := ins_in h
  intro m hm
  unfold numsOf at hm
  repeat' split at hm
  all_goals
    simp only [List.mem_cons, List.not_mem_nil, or_false] at hm
    try (rcases hm with rfl | rfl | rfl <;> assumption)
    try (rcases hm with rfl | rfl <;> assumption)
    try (subst hm; assumption)
theorem spec_l2Nums_ev (op r a b n : Int) : Ev (fun k => spec_l2Nums.f k op r a b n) (numsOf op r a b n) := by
  refine ⟨4, fun k hk => ?_⟩
  obtain ⟨m, rfl⟩ : ∃ m, k = m + 4 := ⟨k - 4, by omega⟩
  simp only [spec_l2Nums.f, spec_l2Nums.j0, spec_l2Nums.j1, spec_l2Nums.j2, numsOf]
  rcases op_cases op with rfl | rfl | rfl | rfl | rfl | rfl | rfl | rfl | rfl | rfl | rfl | rfl | rfl | h
  case inr.inr.inr.inr.inr.inr.inr.inr.inr.inr.inr.inr.inr =>
    have e : ∀ c : Int, 1 ≤ c → c ≤ 13 → ¬ op = c := fun c h0 h1 => by omega
    simp [e 1 (by omega) (by omega), e 2 (by omega) (by omega), e 3 (by omega) (by omega), e 4 (by omega) (by omega), e 5 (by omega) (by omega), e 6 (by omega) (by omega), e 7 (by omega) (by omega), e 8 (by omega) (by omega), e 9 (by omega) (by omega), e 10 (by omega) (by omega), e 11 (by omega) (by omega), e 12 (by omega) (by omega)]
  all_goals simp
theorem spec_InsText_l0 (b : ByteArray) (l : List Int) (hl : ∀ n ∈ l, In64 n) (hb : b.size + 22 * l.length ≤ 1000000000) : Ev (fun k => spec_InsText.l0 k b l 0) (wordsOf b l) := by
  have key := count_up (L := fun j k => spec_InsText.l0 k (wordsOf b (l.take j)) l (j : Int)) (R := fun _ => wordsOf b l) (n := l.length)
    (Ev.one fun k => by rw [spec_InsText.l0, if_neg (by omega), List.take_length])
    (fun j hj ih => by
      have h1 := hl l[j] (List.getElem_mem hj)
      have h2 := sp_size h1
      have h3 := num_size h1
      have h4 := take_size hj hl hb
      have h5 : (wordsOf b (l.take j) ++ (⟨#[32]⟩ : ByteArray)).size = (wordsOf b (l.take j)).size + 1 := by rw [ByteArray.size_append]; rfl
      refine Ev.step (fun k => by rw [spec_InsText.l0, if_pos (by omega), if_pos (by omega), if_pos (by omega), rd_get hj]) (Ev.bind (spec_l2Digits_ev h1) ?_)
      refine Ev.ite_pos (by omega) ?_
      rw [ByteArray.append_assoc, ← wordsOf_take hj, wrapS hj (by omega)]
      exact ih)
  exact key 0 (Nat.zero_le _)
theorem spec_InsText_ev (op r a b n : Int) : Ev (fun k => spec_InsText.f k op r a b n) (insText op r a b n) := by
  simp only [spec_InsText.f]
  refine Ev.bind (spec_InsOk_ev ..) ?_
  unfold insText
  by_cases h : insOk op r a b n 24 3 = true
  · refine Ev.ite_pos h ?_
    rw [if_pos h]
    obtain ⟨⟨h0, h1⟩, _⟩ := ins_in h
    simp only [spec_l2Names.f, Option.bind_some]
    refine Ev.ite_pos (by omega) (Ev.ite_pos (by simp; omega) ?_)
    refine Ev.bind (spec_l2Nums_ev ..) ?_
    exact spec_InsText_l0 (nameOf op) _ (numsOf_in h) (by have := nameOf_size op h0 h1; have := numsOf_length op r a b n; omega)
  · refine Ev.ite_neg h ?_
    rw [if_neg h]
    exact Ev.now _
theorem impl_InsText_ev (op r a b n : Int) : Ev (fun k => impl_InsText.f k op r a b n) (insText op r a b n) := by
  simp only [impl_InsText.f]
  refine Ev.bind (impl_InsOk_ev _ _ _ _ _ _ _ (by omega) (by omega)) ?_
  unfold insText
  by_cases h : insOk op r a b n 24 3 = true
  · refine Ev.ite_pos h ?_
    rw [if_pos h]
    obtain ⟨⟨h0, h1⟩, _⟩ := ins_in h
    have hn := numsOf_in h
    have hs := nameOf_size op h0 h1
    have hl := numsOf_length op r a b n
    have go : Ev (fun k => (impl_words.f k (nameOf op) (numsOf op r a b n)).bind fun t => some t) (wordsOf (nameOf op) (numsOf op r a b n)) := Ev.bind (impl_words_ev _ _ hn (by omega)) (Ev.now _)
    clear hn hs hl h
    rcases op_cases op with rfl | rfl | rfl | rfl | rfl | rfl | rfl | rfl | rfl | rfl | rfl | rfl | rfl | h
    case inr.inr.inr.inr.inr.inr.inr.inr.inr.inr.inr.inr.inl => exact Ev.now _
    case inr.inr.inr.inr.inr.inr.inr.inr.inr.inr.inr.inr.inr => omega
    all_goals exact go
  · refine Ev.ite_neg h ?_
    rw [if_neg h]
    exact Ev.now _

theorem FnExactInsText (x0_0 : Int) (x0_1 : Int) (x0_2 : Int) (x0_3 : Int) (x0_4 : Int) (ok0 : (((Lit.int .i64 x0_0).wf = true) ∧ (((Lit.int .i64 x0_1).wf = true) ∧ (((Lit.int .i64 x0_2).wf = true) ∧ (((Lit.int .i64 x0_3).wf = true) ∧ ((Lit.int .i64 x0_4).wf = true)))))) : ∃ k, laws_FnExactInsText.f k x0_0 x0_1 x0_2 x0_3 x0_4 = some true := by
  refine Ev.rounds (g := fun k => laws_FnExactInsText.f k x0_0 x0_1 x0_2 x0_3 x0_4) ?_
  simp only [laws_FnExactInsText.f, laws_toIns.f, Option.bind_some]
  refine Ev.bind (spec_InsText_ev ..) ?_
  refine Ev.bind (impl_InsText_ev ..) ?_
  exact Ev.ite_pos rfl (Ev.now _)

end Go.Proofs.YtkjfcmgpplapeaaDoor.Pure
