/- A part of the proof that the law FnInsText holds for every input: the words, functions and walks that its row needs, without a condition of their own. -/
import Derived.ProofKit
import Derived.DataElems
import Derived.ChangeArms
import Derived.SizedLaws
import Derived.Test.YtkjfcmgpplapeaaDoorRows
import Derived.LaidMore
import Derived.OpenShut
import Derived.Stop.Joined
import Derived.Stop.LaidErr
import Derived.Stood8Apart
import Derived.Shelf.Vars
import Derived.Test.YtkjfcmgpplapeaaDoorZFnInsTexta1
import Derived.Test.YtkjfcmgpplapeaaDoorZFnInsTexta2
import Derived.Test.YtkjfcmgpplapeaaDoorZFnInsTexta16
namespace Go.Proofs.YtkjfcmgpplapeaaDoor.Pure
open Go.RowKit Go.Proofs.YtkjfcmgpplapeaaDoor.PFnInsText Go.Proofs.YtkjfcmgpplapeaaDoorW.PrintWords Go.Proofs.YtkjfcmgpplapeaaDoorW.PrintLast Go.Proofs.YtkjfcmgpplapeaaDoor.Lp
set_option linter.unusedVariables false
set_option linter.unusedSimpArgs false
def inn (a lo hi : Int) : Bool := decide (lo ≤ a ∧ a ≤ hi)
theorem spec_l1In_eq (a lo hi : Int) : spec_l1In.f a lo hi = some (inn a lo hi) := by
  unfold spec_l1In.f inn
  by_cases h : a ≥ lo
  · rw [if_pos h]; congr 1; simp; omega
  · rw [if_neg h, decide_eq_false (by omega)]
theorem impl_within_eq (a lo hi : Int) : impl_within.f a lo hi = some (inn a lo hi) := by
  unfold impl_within.f inn
  by_cases h : a ≥ lo
  · rw [if_pos h]; congr 1; simp; omega
  · rw [if_neg h, decide_eq_false (by omega)]
def InsR (op r a b n p c : Int) : Prop :=
  (0 ≤ r ∧ r ≤ 3) ∧ (0 ≤ a ∧ a ≤ 3) ∧ (0 ≤ b ∧ b ≤ 3) ∧ (0 ≤ c ∧ c ≤ 3) ∧
  ((op = 1 ∧ (-1000000000 ≤ n ∧ n ≤ 1000000000) ∧ a = 0 ∧ b = 0) ∨ ((op = 2 ∨ op = 3 ∨ op = 4) ∧ n = 0) ∨ (op = 5 ∧ (0 ≤ n ∧ n < c) ∧ r = 0 ∧ b = 0) ∨
   ((op = 6 ∨ op = 8) ∧ (0 ≤ n ∧ n < c) ∧ a = 0 ∧ r ≠ b) ∨ (op = 7 ∧ (0 ≤ n ∧ n < c) ∧ b = 0) ∨ (op = 9 ∧ (0 ≤ n ∧ n < c) ∧ r = 0 ∧ a = 0 ∧ b = 0) ∨ (op = 10 ∧ r = 0 ∧ b = 0 ∧ n = 0) ∨
   (op = 11 ∧ (0 ≤ n ∧ n < p) ∧ r = 0 ∧ a = 0 ∧ b = 0) ∨ (op = 12 ∧ (0 ≤ n ∧ n < p) ∧ r = 0 ∧ b = 0) ∨ (op = 13 ∧ r = 0 ∧ a = 0 ∧ b = 0 ∧ n = 0))
instance (op r a b n p c : Int) : Decidable (InsR op r a b n p c) := by unfold InsR; infer_instance
def insOk (op r a b n p c : Int) : Bool := decide (InsR op r a b n p c)
theorem op_cases (op : Int) : op = 1 ∨ op = 2 ∨ op = 3 ∨ op = 4 ∨ op = 5 ∨ op = 6 ∨ op = 7 ∨ op = 8 ∨ op = 9 ∨ op = 10 ∨ op = 11 ∨ op = 12 ∨ op = 13 ∨ (op < 1 ∨ 13 < op) := by omega
theorem wrap_pred {p : Int} (h0 : -9223372036854775807 ≤ p) (h1 : p ≤ 9223372036854775807) : wrap64 (p - 1) = p - 1 := wrap_in (by omega) (by omega)
theorem spec_InsOk_ev (op r a b n p c : Int) : Ev (fun k => spec_InsOk.f k op r a b n p c) (insOk op r a b n p c) := by
  refine ⟨5, fun k hk => ?_⟩
  obtain ⟨m, rfl⟩ : ∃ m, k = m + 5 := ⟨k - 5, by omega⟩
  by_cases hcc : 0 ≤ c ∧ c ≤ 3
  case neg =>
    have h' : ¬ InsR op r a b n p c := by unfold InsR; omega
    simp only [spec_InsOk.f, spec_InsOk.j0, spec_l1In_eq, Option.bind_some, inn, insOk, decide_eq_false hcc, decide_eq_false h', Bool.not_false, if_true]
    repeat' split
    all_goals rfl
  have hc : -9223372036854775807 ≤ c := by omega
  have hc' : c ≤ 9223372036854775807 := by omega
  simp only [spec_InsOk.f, spec_InsOk.j0, spec_InsOk.j1, spec_InsOk.j2, spec_InsOk.j3, spec_l1In_eq, Option.bind_some, inn, insOk, decide_eq_true_eq, wrap_pred hc hc']
  rcases op_cases op with rfl | rfl | rfl | rfl | rfl | rfl | rfl | rfl | rfl | rfl | rfl | rfl | rfl | h
  case inr.inr.inr.inr.inr.inr.inr.inr.inr.inr.inr.inr.inr =>
    have h' : ¬ InsR op r a b n p c := by unfold InsR; omega
    have h4 : (op == 4) = false := by simpa using (show ¬ op = 4 by omega)
    have h8 : (op == 8) = false := by simpa using (show ¬ op = 8 by omega)
    simp only [if_neg (show ¬ op = 1 by omega), if_neg (show ¬ op = 2 by omega), if_neg (show ¬ op = 3 by omega), if_neg (show ¬ op = 5 by omega), if_neg (show ¬ op = 6 by omega), if_neg (show ¬ op = 7 by omega), if_neg (show ¬ op = 9 by omega), if_neg (show ¬ op = 10 by omega), if_neg (show ¬ op = 11 by omega), if_neg (show ¬ op = 12 by omega), if_neg (show ¬ op = 13 by omega), decide_eq_false h', h4, h8, Bool.false_eq_true, if_false]
    repeat' split
    all_goals rfl
  all_goals
    simp only [InsR]
    simp
    repeat' split
    all_goals first
      | (congr 1; rw [Bool.eq_iff_iff]; simp; omega)
      | (simp; omega)
theorem impl_isReg_eq (a : Int) : impl_isReg.f a = some (inn a 0 3) := by simp [impl_isReg.f, impl_within_eq]
theorem impl_ofChan_eq (a : Int) : impl_ofChan.f a = some (inn a 5 9) := by simp [impl_ofChan.f, impl_within_eq]
theorem impl_InsOk_ev (op r a b n p c : Int) (hp : -9223372036854775807 ≤ p) (hp' : p ≤ 9223372036854775807) : Ev (fun k => impl_InsOk.f k op r a b n p c) (insOk op r a b n p c) := by
  refine ⟨8, fun k hk => ?_⟩
  obtain ⟨m, rfl⟩ : ∃ m, k = m + 8 := ⟨k - 8, by omega⟩
  by_cases hcc : 0 ≤ c ∧ c ≤ 3
  case neg =>
    have h' : ¬ InsR op r a b n p c := by unfold InsR; omega
    simp only [impl_InsOk.f, impl_InsOk.j0, impl_within_eq, Option.bind_some, inn, insOk, decide_eq_false hcc, decide_eq_false h', Bool.false_eq_true, if_false, if_true]
  have hc : -9223372036854775807 ≤ c := by omega
  have hc' : c ≤ 9223372036854775807 := by omega
  simp only [impl_InsOk.f, impl_InsOk.j0, impl_InsOk.j1, impl_InsOk.j2, impl_named.f, impl_named.j0, impl_named.j1, impl_named.j2, impl_named.j3, impl_isReg_eq, impl_ofChan_eq, impl_within_eq, Option.bind_some, inn, insOk, decide_eq_true_eq, wrap_pred hc hc', wrap_pred hp hp']
  rcases op_cases op with rfl | rfl | rfl | rfl | rfl | rfl | rfl | rfl | rfl | rfl | rfl | rfl | rfl | h
  case inr.inr.inr.inr.inr.inr.inr.inr.inr.inr.inr.inr.inr =>
    have h' : ¬ InsR op r a b n p c := by unfold InsR; omega
    simp only [if_neg (show ¬ (1 ≤ op ∧ op ≤ 13) by omega), decide_eq_false h', if_true]
    repeat' split
    all_goals rfl
  all_goals
    simp only [InsR]
    simp
    repeat' split
    all_goals first
      | (congr 1; rw [Bool.eq_iff_iff]; simp; omega)
      | (simp; omega)
def num (n : Int) : ByteArray := ⟨(Lib.itoa n).toArray⟩
def In64 (n : Int) : Prop := -9223372036854775808 ≤ n ∧ n ≤ 9223372036854775807
theorem num_size {n : Int} (h : In64 n) : (num n).size ≤ 21 := by
  show (Lib.itoa n).toArray.size ≤ 21
  rw [List.size_toArray]
  exact Lib.itoa_length_le n h.1 h.2
theorem impl_digits_eq {n : Int} (h : In64 n) : impl_digits.f n = some (num n) := if_pos h
theorem ba_append (a b : List UInt8) : (⟨a.toArray⟩ : ByteArray) ++ ⟨b.toArray⟩ = ⟨(a ++ b).toArray⟩ := by
  apply ByteArray.ext
  rw [ByteArray.data_append]
  simp
def dd (u : Nat) : List UInt8 := if u = 0 then [] else Lib.decDigits u
theorem dd_step {u : Nat} (h : u ≠ 0) : dd u = dd (u / 10) ++ [UInt8.ofNat (48 + u % 10)] := by
  unfold dd
  rw [if_neg h]
  by_cases c : u < 10
  · rw [if_pos (by omega), Lib.decDigits, dif_pos c, Nat.mod_eq_of_lt c]
    rfl
  · rw [if_neg (by omega), Lib.decDigits, dif_neg c]
theorem dd_length : ∀ {k u : Nat}, u < 10 ^ k → (dd u).length ≤ k
  | 0, u, h => by
    obtain rfl : u = 0 := by simpa using h
    simp [dd]
  | k + 1, u, h => by
    by_cases c : u = 0
    · subst c; simp [dd]
    · rw [dd_step c, List.length_append, List.length_singleton]
      have := dd_length (k := k) (u := u / 10) (by rw [Nat.pow_succ] at h; omega)
      omega
theorem one_char (d : Nat) (h : d < 10) : strOfNums [(48 + (d : Int)) % 256] = ⟨[UInt8.ofNat (48 + d)].toArray⟩ := by
  unfold strOfNums
  rw [List.map_cons, List.map_nil, show ((48 + (d : Int)) % 256).toNat = 48 + d by omega]
theorem digits_loop : ∀ (u : Nat) (x : Int) (neg : Bool) (s : ByteArray), x.natAbs = u → In64 x → s.size + (dd u).length ≤ 100 → Ev (fun k => spec_l2Digits.l0 k x neg s) ((if neg = true then (⟨#[45]⟩ : ByteArray) else ByteArray.empty) ++ (⟨(dd u).toArray⟩ ++ s)) := by
  intro u
  induction u using Nat.strongRecOn with
  | ind u ih =>
    intro x neg s hx hr hs
    by_cases h0 : x = 0
    · subst h0
      obtain rfl : u = 0 := by simpa using hx.symm
      have e0 : (⟨(dd 0).toArray⟩ : ByteArray) ++ s = s := ByteArray.empty_append
      rw [e0]
      refine Ev.step (fun k => by rw [spec_l2Digits.l0]) ?_
      refine Ev.ite_pos rfl ?_
      cases neg with
      | true => exact Ev.ite_pos rfl (Ev.ite_pos (by omega) (Ev.now _))
      | false =>
        refine Ev.ite_neg (by simp) ?_
        rw [if_neg (by simp), ByteArray.empty_append]
        exact Ev.now _
    · have hu : u ≠ 0 := by omega
      have hd : (dd u).length = (dd (u / 10)).length + 1 := by rw [dd_step hu]; simp
      have hsz : (strOfNums [(48 + ((u % 10 : Nat) : Int)) % 256]).size = 1 := by rw [one_char _ (by omega)]; rfl
      have next : ∀ y : Int, y.natAbs = u / 10 → In64 y → Ev (fun k => spec_l2Digits.l0 k y neg (strOfNums [(48 + ((u % 10 : Nat) : Int)) % 256] ++ s)) ((if neg = true then (⟨#[45]⟩ : ByteArray) else ByteArray.empty) ++ (⟨(dd u).toArray⟩ ++ s)) := by
        intro y hy hry
        refine Ev.val ?_ (ih (u / 10) (by omega) y neg _ hy hry (by rw [ByteArray.size_append, hsz]; omega))
        rw [one_char _ (by omega), dd_step hu, ← ba_append, ByteArray.append_assoc]
      refine Ev.step (fun k => by rw [spec_l2Digits.l0]) ?_
      refine Ev.ite_neg h0 ?_
      simp only [Option.bind_some]
      unfold In64 at hr
      rcases Int.le_total 0 x with hp | hp
      · obtain rfl : x = (u : Int) := by omega
        have em : Int.tmod (u : Int) 10 = ((u % 10 : Nat) : Int) := by rw [Int.tmod_eq_emod_of_nonneg (by omega)]; omega
        have ed : Int.tdiv (u : Int) 10 = ((u / 10 : Nat) : Int) := by rw [Int.tdiv_eq_ediv_of_nonneg (by omega)]; omega
        rw [em, ed]
        refine Ev.ite_neg (by omega) ?_
        rw [wrap_in (n := 48 + ((u % 10 : Nat) : Int)) (by omega) (by omega), wrap_in (n := ((u / 10 : Nat) : Int)) (by omega) (by omega)]
        refine Ev.ite_pos (by rw [hsz]; omega) ?_
        exact next _ (by omega) ⟨by omega, by omega⟩
      · obtain ⟨v, hv⟩ : ∃ v : Nat, v = u := ⟨u, rfl⟩
        obtain rfl : x = -(u : Int) := by omega
        have em : Int.tmod (-(u : Int)) 10 = -((u % 10 : Nat) : Int) := by rw [Int.neg_tmod, Int.tmod_eq_emod_of_nonneg (by omega)]; omega
        have ed : Int.tdiv (-(u : Int)) 10 = -((u / 10 : Nat) : Int) := by rw [Int.neg_tdiv, Int.tdiv_eq_ediv_of_nonneg (by omega)]; omega
        rw [em, ed, Int.neg_neg]
        have e3 : wrap64 (-((u / 10 : Nat) : Int)) = -((u / 10 : Nat) : Int) := wrap_in (by omega) (by omega)
        by_cases hz : -((u % 10 : Nat) : Int) < 0
        · refine Ev.ite_pos hz ?_
          rw [wrap_in (n := ((u % 10 : Nat) : Int)) (by omega) (by omega), wrap_in (n := 48 + ((u % 10 : Nat) : Int)) (by omega) (by omega), e3]
          refine Ev.ite_pos (by rw [hsz]; omega) ?_
          exact next _ (by omega) ⟨by omega, by omega⟩
        · refine Ev.ite_neg hz ?_
          have e0 : ((u % 10 : Nat) : Int) = 0 := by omega
          rw [show -((u % 10 : Nat) : Int) = ((u % 10 : Nat) : Int) by omega, wrap_in (n := 48 + ((u % 10 : Nat) : Int)) (by omega) (by omega), e3]
          refine Ev.ite_pos (by rw [hsz]; omega) ?_
          exact next _ (by omega) ⟨by omega, by omega⟩
theorem spec_l2Digits_ev {n : Int} (h : In64 n) : Ev (fun k => spec_l2Digits.f k n) (num n) := by
  simp only [spec_l2Digits.f]
  by_cases h0 : n = 0
  · subst h0
    refine Ev.ite_pos rfl ?_
    refine Ev.val (r := (⟨#[48]⟩ : ByteArray)) ?_ (Ev.now _)
    unfold num Lib.itoa
    rw [if_neg (by omega), Int.toNat_zero, Lib.decDigits, dif_pos (by omega)]
    rfl
  · refine Ev.ite_neg h0 ?_
    have hd : (dd n.natAbs).length ≤ 19 := dd_length (by unfold In64 at h; omega)
    refine Ev.val ?_ (digits_loop n.natAbs n (decide (n < 0)) (⟨#[]⟩ : ByteArray) rfl h (by show 0 + _ ≤ 100; omega))
    have e : ∀ x : ByteArray, x ++ (⟨#[]⟩ : ByteArray) = x := fun x => ByteArray.append_empty
    rw [e]
    unfold num Lib.itoa dd
    rw [if_neg (c := n.natAbs = 0) (by omega)]
    by_cases hn : n < 0
    · rw [if_pos (by simpa using hn), if_pos hn]
      exact ba_append [45] _
    · rw [if_neg (by simpa using hn), if_neg hn, ByteArray.empty_append, show n.toNat = n.natAbs by omega]
def wordsOf (b : ByteArray) : List Int → ByteArray
  | [] => b
  | n :: l => wordsOf (b ++ ((⟨#[32]⟩ : ByteArray) ++ num n)) l
theorem wordsOf_end : ∀ (l : List Int) (b : ByteArray) (n : Int), wordsOf b (l ++ [n]) = wordsOf b l ++ ((⟨#[32]⟩ : ByteArray) ++ num n)
  | [], _, _ => rfl
  | _ :: l, _, n => wordsOf_end l _ n
theorem sp_size {n : Int} (h : In64 n) : ((⟨#[32]⟩ : ByteArray) ++ num n).size ≤ 22 := by
  rw [ByteArray.size_append]
  have := num_size h
  have e : (⟨#[32]⟩ : ByteArray).size = 1 := rfl
  omega
theorem wordsOf_size : ∀ (l : List Int) (b : ByteArray), (∀ n ∈ l, In64 n) → (wordsOf b l).size ≤ b.size + 22 * l.length
  | [], b, _ => by simp [wordsOf]
  | n :: l, b, h => by
    have h1 := wordsOf_size l (b ++ ((⟨#[32]⟩ : ByteArray) ++ num n)) (fun m hm => h m (List.mem_cons_of_mem _ hm))
    have h2 := sp_size (h n (List.mem_cons_self ..))
    rw [wordsOf, List.length_cons]
    rw [ByteArray.size_append] at h1
    omega
theorem wordsOf_take {l : List Int} {b : ByteArray} {j : Nat} (h : j < l.length) : wordsOf b (l.take (j + 1)) = wordsOf b (l.take j) ++ ((⟨#[32]⟩ : ByteArray) ++ num l[j]) := by
  rw [List.take_succ_eq_append_getElem h, wordsOf_end]
theorem take_size {l : List Int} {b : ByteArray} {j : Nat} (h : j < l.length) (hl : ∀ n ∈ l, In64 n) (hb : b.size + 22 * l.length ≤ 1000000000) : (wordsOf b (l.take j)).size ≤ 1000000000 - 22 := by
  have := wordsOf_size (l.take j) b (fun n hn => hl n (List.mem_of_mem_take hn))
  rw [List.length_take] at this
  omega
theorem impl_words_ev (b : ByteArray) (l : List Int) (hl : ∀ n ∈ l, In64 n) (hb : b.size + 22 * l.length ≤ 1000000000) : Ev (fun k => impl_words.f k b l) (wordsOf b l) := by
  have key := count_up (L := fun j k => impl_words.l0 k (wordsOf b (l.take j)) l (l.length : Int) (j : Int)) (R := fun _ => wordsOf b l) (n := l.length)
    (Ev.one fun k => by rw [impl_words.l0, if_neg (by omega), List.take_length])
    (fun j hj ih => by
      have h1 := hl l[j] (List.getElem_mem hj)
      have h2 := sp_size h1
      have h3 := num_size h1
      have h4 := take_size hj hl hb
      exact Ev.step (fun k => by rw [impl_words.l0, if_pos (by omega), if_pos (by omega), if_pos (by omega), rd_get hj, impl_digits_eq h1, Option.bind_some, if_pos (by omega), if_pos (by omega), ← wordsOf_take hj, wrapS hj (by omega)]) ih)
  exact key 0 (Nat.zero_le _)
def nameOf (op : Int) : ByteArray := ([(⟨#[]⟩ : ByteArray), (⟨#[115, 101, 116]⟩ : ByteArray), (⟨#[97, 100, 100]⟩ : ByteArray), (⟨#[115, 117, 98]⟩ : ByteArray), (⟨#[108, 101, 115, 115]⟩ : ByteArray), (⟨#[115, 101, 110, 100]⟩ : ByteArray), (⟨#[116, 97, 107, 101]⟩ : ByteArray), (⟨#[116, 114, 121, 115, 101, 110, 100]⟩ : ByteArray), (⟨#[116, 114, 121, 116, 97, 107, 101]⟩ : ByteArray), (⟨#[99, 108, 111, 115, 101]⟩ : ByteArray), (⟨#[112, 114, 105, 110, 116]⟩ : ByteArray), (⟨#[106, 117, 109, 112]⟩ : ByteArray), (⟨#[122, 101, 114, 111]⟩ : ByteArray), (⟨#[101, 110, 100]⟩ : ByteArray)] : List ByteArray).getD op.toNat ByteArray.empty
def numsOf (op r a b n : Int) : List Int :=
  if op = 1 then [r, n] else if op = 2 ∨ op = 3 ∨ op = 4 then [r, a, b] else if op = 5 then [n, a] else if op = 6 ∨ op = 8 then [r, b, n] else if op = 7 then [r, n, a] else if op = 9 ∨ op = 11 then [n] else if op = 10 then [a] else if op = 12 then [a, n] else []
def insText (op r a b n : Int) : ByteArray := if insOk op r a b n 24 3 = true then wordsOf (nameOf op) (numsOf op r a b n) else (⟨#[]⟩ : ByteArray)
theorem nameOf_size (op : Int) (h0 : 1 ≤ op) (h1 : op ≤ 13) : (nameOf op).size ≤ 8 := by
  rcases op_cases op with rfl | rfl | rfl | rfl | rfl | rfl | rfl | rfl | rfl | rfl | rfl | rfl | rfl | h
  all_goals first
    | (show _ ≤ 8; decide)
    | omega
theorem numsOf_length (op r a b n : Int) : (numsOf op r a b n).length ≤ 3 := by
  unfold numsOf
  repeat' split
  all_goals simp
theorem ins_in {op r a b n : Int} (h : insOk op r a b n 24 3 = true) : (1 ≤ op ∧ op ≤ 13) ∧ In64 r ∧ In64 a ∧ In64 b ∧ In64 n := by
  unfold insOk at h
  rw [decide_eq_true_eq] at h
  obtain ⟨h1, h2, h3, h4, h5⟩ := h
  unfold In64
  rcases h5 with h | h | h | h | h | h | h | h | h | h <;> omega
theorem numsOf_in {op r a b n : Int} (h : insOk op r a b n 24 3 = true) : ∀ m ∈ numsOf op r a b n, In64 m := by
  obtain ⟨_, hr, ha, hb, hn⟩ := ins_in h
  intro m hm
  unfold numsOf at hm
  repeat' split at hm
  all_goals
    simp only [List.mem_cons, List.not_mem_nil, or_false] at hm
    try (rcases hm with rfl | rfl | rfl <;> assumption)
    try (rcases hm with rfl | rfl <;> assumption)
    try (subst hm; assumption)
theorem spec_l2Nums_ev (op r a b n : Int) : Ev (fun k => spec_l2Nums.f k op r a b n) (numsOf op r a b n) := by
  refine ⟨4, fun k hk => ?_⟩
  obtain ⟨m, rfl⟩ : ∃ m, k = m + 4 := ⟨k - 4, by omega⟩
  simp only [spec_l2Nums.f, spec_l2Nums.j0, spec_l2Nums.j1, spec_l2Nums.j2, numsOf]
  rcases op_cases op with rfl | rfl | rfl | rfl | rfl | rfl | rfl | rfl | rfl | rfl | rfl | rfl | rfl | h
  case inr.inr.inr.inr.inr.inr.inr.inr.inr.inr.inr.inr.inr =>
    have e : ∀ c : Int, 1 ≤ c → c ≤ 13 → ¬ op = c := fun c h0 h1 => by omega
    simp [e 1 (by omega) (by omega), e 2 (by omega) (by omega), e 3 (by omega) (by omega), e 4 (by omega) (by omega), e 5 (by omega) (by omega), e 6 (by omega) (by omega), e 7 (by omega) (by omega), e 8 (by omega) (by omega), e 9 (by omega) (by omega), e 10 (by omega) (by omega), e 11 (by omega) (by omega), e 12 (by omega) (by omega)]
  all_goals simp
theorem spec_InsText_l0 (b : ByteArray) (l : List Int) (hl : ∀ n ∈ l, In64 n) (hb : b.size + 22 * l.length ≤ 1000000000) : Ev (fun k => spec_InsText.l0 k b l 0) (wordsOf b l) := by
  have key := count_up (L := fun j k => spec_InsText.l0 k (wordsOf b (l.take j)) l (j : Int)) (R := fun _ => wordsOf b l) (n := l.length)
    (Ev.one fun k => by rw [spec_InsText.l0, if_neg (by omega), List.take_length])
    (fun j hj ih => by
      have h1 := hl l[j] (List.getElem_mem hj)
      have h2 := sp_size h1
      have h3 := num_size h1
      have h4 := take_size hj hl hb
      have h5 : (wordsOf b (l.take j) ++ (⟨#[32]⟩ : ByteArray)).size = (wordsOf b (l.take j)).size + 1 := by rw [ByteArray.size_append]; rfl
      refine Ev.step (fun k => by rw [spec_InsText.l0, if_pos (by omega), if_pos (by omega), if_pos (by omega), rd_get hj]) (Ev.bind (spec_l2Digits_ev h1) ?_)
      refine Ev.ite_pos (by omega) ?_
      rw [ByteArray.append_assoc, ← wordsOf_take hj, wrapS hj (by omega)]
      exact ih)
  exact key 0 (Nat.zero_le _)
theorem spec_InsText_ev (op r a b n : Int) : Ev (fun k => spec_InsText.f k op r a b n) (insText op r a b n) := by
  simp only [spec_InsText.f]
  refine Ev.bind (spec_InsOk_ev ..) ?_
  unfold insText
  by_cases h : insOk op r a b n 24 3 = true
  · refine Ev.ite_pos h ?_
    rw [if_pos h]
    obtain ⟨⟨h0, h1⟩, _⟩ := ins_in h
    simp only [spec_l2Names.f, Option.bind_some]
    refine Ev.ite_pos (by omega) (Ev.ite_pos (by simp; omega) ?_)
    refine Ev.bind (spec_l2Nums_ev ..) ?_
    exact spec_InsText_l0 (nameOf op) _ (numsOf_in h) (by have := nameOf_size op h0 h1; have := numsOf_length op r a b n; omega)
  · refine Ev.ite_neg h ?_
    rw [if_neg h]
    exact Ev.now _
theorem impl_InsText_ev (op r a b n : Int) : Ev (fun k => impl_InsText.f k op r a b n) (insText op r a b n) := by
  simp only [impl_InsText.f]
  refine Ev.bind (impl_InsOk_ev _ _ _ _ _ _ _ (by omega) (by omega)) ?_
  unfold insText
  by_cases h : insOk op r a b n 24 3 = true
  · refine Ev.ite_pos h ?_
    rw [if_pos h]
    obtain ⟨⟨h0, h1⟩, _⟩ := ins_in h
    have hn := numsOf_in h
    have hs := nameOf_size op h0 h1
    have hl := numsOf_length op r a b n
    have go : Ev (fun k => (impl_words.f k (nameOf op) (numsOf op r a b n)).bind fun t => some t) (wordsOf (nameOf op) (numsOf op r a b n)) := Ev.bind (impl_words_ev _ _ hn (by omega)) (Ev.now _)
    clear hn hs hl h
    rcases op_cases op with rfl | rfl | rfl | rfl | rfl | rfl | rfl | rfl | rfl | rfl | rfl | rfl | rfl | h
    case inr.inr.inr.inr.inr.inr.inr.inr.inr.inr.inr.inr.inl => exact Ev.now _
    case inr.inr.inr.inr.inr.inr.inr.inr.inr.inr.inr.inr.inr => omega
    all_goals exact go
  · refine Ev.ite_neg h ?_
    rw [if_neg h]
    exact Ev.now _
theorem impl_copyInts_eq (l : List Int) (h : l.length < 17592186044416) : impl_copyInts.f l = some l := by
  simp [impl_copyInts.f, h]
def cutW (cur : List UInt8) : List UInt8 → List (List UInt8)
  | [] => [cur]
  | c :: l => if c = 32 then cur :: cutW [] l else cutW (cur ++ [c]) l
def tailW : List (List UInt8) → List UInt8
  | [] => []
  | x :: xs => 32 :: (x ++ tailW xs)
def NoSp (w : List UInt8) : Prop := ∀ c ∈ w, c ≠ 32
theorem cutW_app : ∀ (w cur rest : List UInt8), NoSp w → cutW cur (w ++ rest) = cutW (cur ++ w) rest
  | [], cur, rest, _ => by simp
  | c :: w, cur, rest, h => by
    rw [List.cons_append, cutW, if_neg (h c List.mem_cons_self), cutW_app w _ rest (fun d hd => h d (List.mem_cons_of_mem _ hd))]
    simp
theorem cutW_glue : ∀ (xs : List (List UInt8)) (w cur : List UInt8), NoSp w → (∀ x ∈ xs, NoSp x) → cutW cur (w ++ tailW xs) = (cur ++ w) :: xs
  | [], w, cur, hw, _ => by
    rw [cutW_app w cur _ hw]
    simp [tailW, cutW]
  | x :: xs, w, cur, hw, hx => by
    rw [cutW_app w cur _ hw, tailW, cutW, if_pos rfl, cutW_glue xs x [] (hx x List.mem_cons_self) (fun y hy => hx y (List.mem_cons_of_mem _ hy))]
    simp
theorem index_app : ∀ (w rest : List UInt8), NoSp w → Lib.index (w ++ 32 :: rest) [32] = (w.length : Int)
  | [], rest, _ => by simp [Lib.index, List.isPrefixOf]
  | c :: w, rest, h => by
    have hc : ((32 : UInt8) == c) = false := by simpa using fun e => h c List.mem_cons_self e.symm
    rw [List.cons_append, Lib.index, index_app w rest (fun d hd => h d (List.mem_cons_of_mem _ hd))]
    simp only [List.isPrefixOf, hc, Bool.false_and, Bool.false_eq_true, if_false]
    rw [if_neg (by simp)]
    simp
theorem count_noSp {w : List UInt8} (h : NoSp w) : w.count 32 = 0 := List.count_eq_zero.mpr fun hm => h 32 hm rfl
theorem splitK_glue : ∀ (xs : List (List UInt8)) (w : List UInt8), NoSp w → (∀ x ∈ xs, NoSp x) → Lib.splitK [32] 0 (Lib.count (w ++ tailW xs) [32]) (w ++ tailW xs) = w :: xs
  | [], w, hw, _ => by
    rw [Lib.count_one, tailW, List.append_nil, count_noSp hw]
    rfl
  | x :: xs, w, hw, hx => by
    have ih := splitK_glue xs x (hx x List.mem_cons_self) (fun y hy => hx y (List.mem_cons_of_mem _ hy))
    rw [Lib.count_one] at ih ⊢
    have e : (w ++ tailW (x :: xs)).count 32 = (x ++ tailW xs).count 32 + 1 := by
      rw [tailW, List.count_append, count_noSp hw, List.count_cons]
      simp
    rw [e, tailW, Lib.splitK, index_app w _ hw, if_neg (by simp)]
    rw [show ((w.length : Int)).toNat = w.length from Int.toNat_natCast _]
    have e1 : (w ++ 32 :: (x ++ tailW xs)).take (w.length + 0) = w := by simp
    have e2 : (w ++ 32 :: (x ++ tailW xs)).drop (w.length + [(32 : UInt8)].length) = x ++ tailW xs := by
      rw [List.drop_append]
      simp
    rw [e1, e2, ih]
def stepD (a : Nat) (c : UInt8) : Nat := a * 10 + (c.toNat - 48)
def valD (acc : Nat) (l : List UInt8) : Nat := l.foldl stepD acc
def AllDig (l : List UInt8) : Prop := ∀ c ∈ l, 48 ≤ c.toNat ∧ c.toNat ≤ 57
theorem valD_nil (acc : Nat) : valD acc [] = acc := rfl
theorem valD_cons (acc : Nat) (c : UInt8) (r : List UInt8) : valD acc (c :: r) = valD (acc * 10 + (c.toNat - 48)) r := by unfold valD; rw [List.foldl_cons]; unfold stepD; rfl
theorem valD_append (l : List UInt8) (c : UInt8) : ∀ acc : Nat, valD acc (l ++ [c]) = valD acc l * 10 + (c.toNat - 48) := by
  induction l with
  | nil => intro acc; rw [List.nil_append, valD_cons, valD_nil, valD_nil]
  | cons d l ih => intro acc; rw [List.cons_append, valD_cons, valD_cons, ih]
theorem valD_ge (l : List UInt8) : ∀ acc : Nat, acc ≤ valD acc l := by
  induction l with
  | nil => intro acc; rw [valD_nil]; exact Nat.le_refl _
  | cons c r ih =>
    intro acc
    have := ih (acc * 10 + (c.toNat - 48))
    rw [valD_cons]
    omega
theorem dig_nat (d : Nat) (h : d < 10) : (UInt8.ofNat (48 + d)).toNat = 48 + d := by
  rw [UInt8.toNat_ofNat']
  omega
theorem dec_val (u : Nat) : valD 0 (Lib.decDigits u) = u ∧ AllDig (Lib.decDigits u) := by
  induction u using Nat.strongRecOn with
  | ind u ih =>
    rw [Lib.decDigits]
    by_cases h : u < 10
    · rw [dif_pos h]
      have hd := dig_nat u h
      refine ⟨by rw [valD_cons, valD_nil, hd]; omega, fun c hc => ?_⟩
      obtain rfl : c = UInt8.ofNat (48 + u) := by simpa using hc
      omega
    · rw [dif_neg h]
      obtain ⟨h1, h2⟩ := ih (u / 10) (by omega)
      have hd := dig_nat (u % 10) (by omega)
      refine ⟨by rw [valD_append, h1, hd]; omega, fun c hc => ?_⟩
      rcases List.mem_append.mp hc with hc | hc
      · exact h2 c hc
      · obtain rfl : c = UInt8.ofNat (48 + u % 10) := by simpa using hc
        omega
theorem dec_ne (u : Nat) : ∃ c r, Lib.decDigits u = c :: r := by
  rw [Lib.decDigits]
  by_cases h : u < 10
  · rw [dif_pos h]
    exact ⟨_, _, rfl⟩
  · rw [dif_neg h]
    cases Lib.decDigits (u / 10) with
    | nil => exact ⟨_, _, rfl⟩
    | cons c r => exact ⟨_, _, rfl⟩
theorem parse_dig (l : List UInt8) : ∀ acc : Nat, AllDig l → valD acc l ≤ 1000000000000000000 → Lib.parseUint10 acc l = .ok (valD acc l) := by
  induction l with
  | nil => intro acc _ _; rw [Lib.parseUint10, valD_nil]
  | cons c r ih =>
    intro acc h hv
    have hc := h c List.mem_cons_self
    rw [valD_cons] at hv ⊢
    have hg := valD_ge r (acc * 10 + (c.toNat - 48))
    rw [Lib.parseUint10, if_pos hc, if_neg (by omega), if_neg (by omega), ih _ (fun d hd => h d (List.mem_cons_of_mem _ hd)) hv]
def Sm (n : Int) : Prop := -1000000000 ≤ n ∧ n ≤ 1000000000
theorem atoi_itoa {n : Int} (h : Sm n) : Lib.atoiAll (Lib.itoa n) = .ok n := by
  unfold Sm at h
  have key : ∀ u : Nat, u ≤ 1000000000 → Lib.parseMag (Lib.decDigits u) = .ok u := by
    intro u hu
    obtain ⟨h1, h2⟩ := dec_val u
    obtain ⟨c, r, e⟩ := dec_ne u
    unfold Lib.parseMag
    rw [if_neg (by rw [e]; simp), parse_dig _ _ h2 (by rw [h1]; omega), h1]
  unfold Lib.itoa
  by_cases hn : n < 0
  · rw [if_pos hn]
    have hk := key n.natAbs (by omega)
    unfold Lib.atoiAll
    simp only [show (45 : UInt8).toNat = 45 from rfl, show ¬ ((45 : Nat) = 43) by omega, or_true, if_true, hk]
    simp only [not_true_eq_false, false_and, if_false, true_and]
    rw [if_neg (by omega)]
    congr 1
    omega
  · rw [if_neg hn]
    have hk := key n.toNat (by omega)
    obtain ⟨c, r, e⟩ := dec_ne n.toNat
    obtain ⟨_, h2⟩ := dec_val n.toNat
    rw [e] at hk h2 ⊢
    have hc := h2 c List.mem_cons_self
    unfold Lib.atoiAll
    simp only []
    rw [if_neg (by omega), hk]
    simp only [show ¬ (c.toNat = 45) by omega, not_false_eq_true, true_and, false_and, if_false]
    rw [if_neg (by omega)]
    congr 1
    omega
def ba (l : List UInt8) : ByteArray := ⟨l.toArray⟩
theorem ba_data (s : ByteArray) : ba s.data.toList = s := by
  apply ByteArray.ext
  simp [ba]
theorem data_ba (l : List UInt8) : (ba l).data.toList = l := by simp [ba]
theorem ba_inj {s t : ByteArray} (h : s.data.toList = t.data.toList) : s = t := by rw [← ba_data s, ← ba_data t, h]
theorem toList_inj {s t : ByteArray} : s.toList = t.toList ↔ s = t := by
  rw [ByteArray.toList_eq, ByteArray.toList_eq]
  exact ⟨ba_inj, fun h => by rw [h]⟩
theorem toList_nil {s : ByteArray} : s.toList = [] ↔ s.size = 0 := by
  rw [ByteArray.toList_eq, ← List.length_eq_zero_iff, Array.length_toList]
  rfl
theorem size_data (s : ByteArray) : s.size = s.data.toList.length := by rw [Array.length_toList]; rfl
theorem num_ba (n : Int) : num n = ba (Lib.itoa n) := rfl
theorem itoa_noSp (n : Int) : NoSp (Lib.itoa n) := by
  have key : ∀ u, NoSp (Lib.decDigits u) := fun u c hc e => by
    have := (dec_val u).2 c hc
    rw [e] at this
    exact absurd this (by decide)
  unfold Lib.itoa
  split
  · intro c hc
    rcases List.mem_cons.mp hc with rfl | hc
    · decide
    · exact key _ c hc
  · exact key _
theorem words_data : ∀ (l : List Int) (b : ByteArray), (wordsOf b l).data.toList = b.data.toList ++ tailW (l.map Lib.itoa)
  | [], b => by simp [wordsOf, tailW]
  | n :: l, b => by
    rw [wordsOf, words_data l]
    simp [tailW, ByteArray.data_append, num]
theorem name_noSp (op : Int) (h0 : 1 ≤ op) (h1 : op ≤ 13) : NoSp (nameOf op).data.toList := by
  rcases op_cases op with rfl | rfl | rfl | rfl | rfl | rfl | rfl | rfl | rfl | rfl | rfl | rfl | rfl | h
  case inr.inr.inr.inr.inr.inr.inr.inr.inr.inr.inr.inr.inr => omega
  all_goals
    unfold NoSp
    decide
theorem name_pos (op : Int) (h0 : 1 ≤ op) (h1 : op ≤ 13) : 1 ≤ (nameOf op).size := by
  rcases op_cases op with rfl | rfl | rfl | rfl | rfl | rfl | rfl | rfl | rfl | rfl | rfl | rfl | rfl | h
  case inr.inr.inr.inr.inr.inr.inr.inr.inr.inr.inr.inr.inr => omega
  all_goals
    show 1 ≤ _
    decide
theorem words_ge : ∀ (l : List Int) (b : ByteArray), b.size ≤ (wordsOf b l).size
  | [], b => Nat.le_refl _
  | n :: l, b => by
    have := words_ge l (b ++ ((⟨#[32]⟩ : ByteArray) ++ num n))
    rw [ByteArray.size_append] at this
    rw [wordsOf]
    omega
theorem bt_data (s : ByteArray) (i : Nat) (h : i < s.data.toList.length) : bt s (i : Int) = (s.data.toList[i].toNat : Int) := by
  have h' : i < s.size := by rw [size_data]; exact h
  unfold bt
  rw [dif_pos (by simpa using h')]
  rfl
theorem is_sp (c : UInt8) : ((c.toNat : Int) = 32) ↔ c = 32 := by
  constructor
  · intro h
    apply UInt8.toNat_inj.mp
    have : c.toNat = 32 := by omega
    exact this
  · rintro rfl
    rfl
theorem ext_data (s : ByteArray) (a b : Nat) : s.extract a b = ba ((s.data.toList.drop a).take (b - a)) := by
  apply ba_inj
  rw [Lib.extract_data, data_ba]
theorem l2Words_l0 (s : ByteArray) (hs : s.size ≤ 1048576) : ∀ d (i f : Nat) (out : List ByteArray), i + d = s.size → f ≤ i → out.length ≤ i → Ev (fun k => spec_l2Words.l0 k s out (f : Int) (i : Int)) (out ++ (cutW ((s.data.toList.drop f).take (i - f)) (s.data.toList.drop i)).map ba) := by
  intro d
  have hd := size_data s
  induction d with
  | zero =>
    intro i f out hi hf ho
    have e1 : s.data.toList.drop i = [] := List.drop_eq_nil_of_le (by omega)
    have ew : wrap64 ((i : Int) + 1) = ((i + 1 : Nat) : Int) := wrap_in (by omega) (by omega)
    refine Ev.step (fun k => by rw [spec_l2Words.l0, if_pos (by omega), if_pos (by omega), if_pos (by omega), if_pos (by omega), if_pos (by omega), ew, Int.toNat_natCast, Int.toNat_natCast]) ?_
    rw [e1, cutW, ext_data]
    exact Ev.one fun k => by rw [spec_l2Words.l0, if_neg (by omega)]; rfl
  | succ d ih =>
    intro i f out hi hf ho
    have hl : i < s.data.toList.length := by omega
    have ew : wrap64 ((i : Int) + 1) = ((i + 1 : Nat) : Int) := wrap_in (by omega) (by omega)
    rw [List.drop_eq_getElem_cons hl, cutW]
    by_cases hc : s.data.toList[i] = 32
    · rw [if_pos hc]
      refine Ev.step (fun k => by rw [spec_l2Words.l0, if_pos (by omega), if_neg (by omega), if_pos (by omega), if_pos (by omega), bt_data s i hl, if_pos ((is_sp _).mpr hc), if_pos (by omega), if_pos (by omega), if_pos (by omega), ew, Int.toNat_natCast, Int.toNat_natCast]) ?_
      refine Ev.val ?_ (ih (i + 1) (i + 1) _ (by omega) (Nat.le_refl _) (by simp; omega))
      rw [ext_data, Nat.sub_self, List.take_zero, List.append_assoc]
      rfl
    · rw [if_neg hc]
      refine Ev.step (fun k => by rw [spec_l2Words.l0, if_pos (by omega), if_neg (by omega), if_pos (by omega), if_pos (by omega), bt_data s i hl, if_neg (fun h => hc ((is_sp _).mp h)), ew]) ?_
      refine Ev.val ?_ (ih (i + 1) f out (by omega) (by omega) (by omega))
      have e : (s.data.toList.drop f).take (i + 1 - f) = (s.data.toList.drop f).take (i - f) ++ [s.data.toList[i]] := by
        rw [show i + 1 - f = (i - f) + 1 by omega, List.take_add_one]
        congr 1
        rw [List.getElem?_drop, show f + (i - f) = i by omega, List.getElem?_eq_getElem hl]
        rfl
      rw [e]
theorem spec_l2Words_ev (s : ByteArray) (hs : s.size ≤ 1048576) : Ev (fun k => spec_l2Words.f k s) ((cutW [] s.data.toList).map ba) := by
  simp only [spec_l2Words.f]
  refine Ev.val ?_ (l2Words_l0 s hs s.size 0 0 [] (by omega) (Nat.le_refl _) (by simp))
  simp
theorem cutW_ne : ∀ (l cur : List UInt8), ∃ w ws, cutW cur l = w :: ws
  | [], cur => ⟨_, _, rfl⟩
  | c :: l, cur => by
    rw [cutW]
    by_cases h : c = 32
    · rw [if_pos h]; exact ⟨_, _, rfl⟩
    · rw [if_neg h]; exact cutW_ne l _
theorem cutW_len : ∀ (l cur : List UInt8) (w : List UInt8), w ∈ cutW cur l → w.length ≤ cur.length + l.length
  | [], cur, w, h => by
    rw [cutW] at h
    obtain rfl : w = cur := by simpa using h
    simp
  | c :: l, cur, w, h => by
    rw [cutW] at h
    by_cases hc : c = 32
    · rw [if_pos hc] at h
      rcases List.mem_cons.mp h with rfl | h
      · simp
      · have := cutW_len l [] w h
        simp at this ⊢
        omega
    · rw [if_neg hc] at h
      have := cutW_len l _ w h
      simp at this ⊢
      omega
theorem splitK_len : ∀ (k : Nat) (s w : List UInt8), w ∈ Lib.splitK [32] 0 k s → w.length ≤ s.length
  | 0, s, w, h => by
    rw [Lib.splitK] at h
    obtain rfl : w = s := by simpa using h
    exact Nat.le_refl _
  | k + 1, s, w, h => by
    rw [Lib.splitK] at h
    split at h
    · obtain rfl : w = s := by simpa using h
      exact Nat.le_refl _
    · rcases List.mem_cons.mp h with rfl | h
      · rw [List.length_take]; omega
      · have := splitK_len k _ w h
        rw [List.length_drop] at this
        omega
def partsOf (s : ByteArray) : List ByteArray := Lib.splitB (⟨#[32]⟩ : ByteArray) 0 (Lib.countB s (⟨#[32]⟩ : ByteArray)) s
theorem parts_data (s : ByteArray) : (partsOf s).map (·.data.toList) = Lib.splitK [32] 0 (Lib.count s.data.toList [32]) s.data.toList := Lib.splitB_data _ _ _ _
theorem impl_Split_eq (s : ByteArray) (hs : s.size ≤ 1048576) : strings_Split.f s (⟨#[32]⟩ : ByteArray) = some (partsOf s) := by
  unfold strings_Split.f TabT.splitF
  rw [if_pos ⟨by omega, by show 1 ≤ 1; omega⟩]
  rfl
theorem parts_facts (s : ByteArray) (hs : s.size ≤ 1048576) : 1 ≤ (partsOf s).length ∧ (partsOf s).length ≤ 1048577 ∧ ∀ w ∈ partsOf s, w.size ≤ 1048576 := by
  have h1 := Lib.splitB_all (⟨#[32]⟩ : ByteArray) (by show 1 ≤ 1; omega) 0 (Lib.countB s (⟨#[32]⟩ : ByteArray)) s rfl
  have h2 := Lib.countB_le (⟨#[32]⟩ : ByteArray) (by show 1 ≤ 1; omega) s.size s (Nat.le_refl _)
  refine ⟨by unfold partsOf; omega, by unfold partsOf; omega, fun w hw => ?_⟩
  have hm : w.data.toList ∈ (partsOf s).map (·.data.toList) := List.mem_map.mpr ⟨w, hw, rfl⟩
  rw [parts_data] at hm
  have := splitK_len _ _ _ hm
  rw [size_data]
  rw [size_data] at hs
  omega
def tens (d : Nat) : Int := ((10 ^ d : Nat) : Int)
theorem tens_succ (d : Nat) : tens (d + 1) = 10 * tens d := by
  unfold tens
  rw [Nat.pow_succ]
  omega
theorem tens_pos (d : Nat) : 1 ≤ tens d := by
  have : 0 < 10 ^ d := Nat.pow_pos (by omega)
  unfold tens
  omega
theorem tens_le {d : Nat} (h : d ≤ 10) : tens d ≤ 10000000000 := by
  have : 10 ^ d ≤ 10 ^ 10 := Nat.pow_le_pow_right (by omega) h
  unfold tens
  omega
def stepR (o : Option Int) (c : UInt8) : Option Int := o.bind fun v => if (c.toNat : Int) < 48 then none else if (c.toNat : Int) > 57 then none else some (10 * v + (c.toNat : Int) - 48)
def readD (v : Option Int) (l : List UInt8) : Option Int := l.foldl stepR v
theorem readD_none : ∀ l, readD none l = none
  | [] => rfl
  | c :: l => by
    unfold readD
    rw [List.foldl_cons]
    exact readD_none l
theorem readD_cons (v : Option Int) (c : UInt8) (l : List UInt8) : readD v (c :: l) = readD (stepR v c) l := by
  unfold readD
  rw [List.foldl_cons]
def finR (s : ByteArray) (a : Int) : Option Int → Int × Bool
  | none => (0, false)
  | some x => if a = 1 then (-x, ((num (-x)).toList == s.toList)) else (x, ((num x).toList == s.toList))
theorem read_l0 (s : ByteArray) (hs : s.size ≤ 1048576) (a : Int) : ∀ d (j : Nat) (v : Int), j + d = s.size → 0 ≤ v → (v + 1) * tens d ≤ 10000000000 → Ev (fun k => spec_l2Read.l0 k s a v (j : Int)) (finR s a (readD (some v) (s.data.toList.drop j))) := by
  intro d
  have hd := size_data s
  induction d with
  | zero =>
    intro j v hj h0 hv
    have e1 : s.data.toList.drop j = [] := List.drop_eq_nil_of_le (by omega)
    have hv' : v + 1 ≤ 10000000000 := by simpa [tens] using hv
    rw [e1]
    refine Ev.step (fun k => by rw [spec_l2Read.l0, if_neg (by omega), wrap_in (n := -v) (by omega) (by omega)]) ?_
    show Ev _ (if a = 1 then (-v, ((num (-v)).toList == s.toList)) else (v, ((num v).toList == s.toList)))
    by_cases ha : a = 1
    · refine Ev.ite_pos ha ?_
      rw [if_pos ha]
      exact Ev.bind (spec_l2Digits_ev ⟨by omega, by omega⟩) (Ev.now _)
    · refine Ev.ite_neg ha ?_
      rw [if_neg ha]
      exact Ev.bind (spec_l2Digits_ev ⟨by omega, by omega⟩) (Ev.now _)
  | succ d ih =>
    intro j v hj h0 hv
    have hl : j < s.data.toList.length := by omega
    rw [List.drop_eq_getElem_cons hl, readD_cons]
    obtain ⟨c, hc⟩ : ∃ c, c = s.data.toList[j] := ⟨_, rfl⟩
    rw [← hc]
    have hb : bt s (j : Int) = (c.toNat : Int) := by rw [bt_data s j hl, hc]
    have hcn : c.toNat < 256 := c.toNat_lt
    have hp := tens_pos d
    rw [tens_succ] at hv
    have hvb : v + 1 ≤ 1000000000 := by
      have : (v + 1) * 10 ≤ (v + 1) * (10 * tens d) := Int.mul_le_mul_of_nonneg_left (by omega) (by omega)
      omega
    by_cases c1 : (c.toNat : Int) < 48
    · have e : stepR (some v) c = none := by unfold stepR; rw [Option.bind_some, if_pos c1]
      rw [e, readD_none]
      exact Ev.one fun k => by rw [spec_l2Read.l0, if_pos (by omega), if_pos (by omega), hb, if_pos c1]; rfl
    · by_cases c2 : (c.toNat : Int) > 57
      · have e : stepR (some v) c = none := by unfold stepR; rw [Option.bind_some, if_neg c1, if_pos c2]
        rw [e, readD_none]
        exact Ev.one fun k => by rw [spec_l2Read.l0, if_pos (by omega), if_pos (by omega), hb, if_neg c1, if_pos c2]; rfl
      · have e : stepR (some v) c = some (10 * v + (c.toNat : Int) - 48) := by unfold stepR; rw [Option.bind_some, if_neg c1, if_neg c2]
        rw [e]
        refine Ev.step (fun k => by rw [spec_l2Read.l0, if_pos (by omega), if_pos (by omega), hb, if_neg c1, if_neg c2, wrap_in (n := 10 * v) (by omega) (by omega), wrap_in (n := (c.toNat : Int)) (by omega) (by omega), wrap_in (n := 10 * v + (c.toNat : Int)) (by omega) (by omega), wrap_in (n := 10 * v + (c.toNat : Int) - 48) (by omega) (by omega), wrapS (n := s.size) (show j < s.size by omega) (by omega)]) ?_
        refine ih (j + 1) _ (by omega) (by omega) ?_
        have : (10 * v + (c.toNat : Int) - 48 + 1) * tens d ≤ (10 * (v + 1)) * tens d := Int.mul_le_mul_of_nonneg_right (by omega) (by omega)
        have e2 : (10 * (v + 1)) * tens d = (v + 1) * (10 * tens d) := by rw [Int.mul_comm 10 (v + 1), Int.mul_assoc]
        omega
def atOf (s : ByteArray) : Nat := if s.size > 1 ∧ s.data.toList.head? = some 45 then 1 else 0
def readOf (s : ByteArray) : Int × Bool := if s.size = atOf s ∨ s.size - atOf s > 10 then (0, false) else finR s (atOf s) (readD (some 0) (s.data.toList.drop (atOf s)))
theorem spec_l2Read_ev (s : ByteArray) (hs : s.size ≤ 1048576) : Ev (fun k => spec_l2Read.f k s) (readOf s) := by
  have hd := size_data s
  have j1 : ∀ a : Nat, a ≤ s.size → a = atOf s → Ev (fun k => spec_l2Read.j1 k s (a : Int)) (readOf s) := by
    intro a ha he
    unfold readOf
    rw [← he]
    have j2t : ∀ x : Int, Ev (fun k => spec_l2Read.j2 k s x true) ((0 : Int), false) := fun x => Ev.one fun k => by rw [spec_l2Read.j2, if_pos rfl]
    by_cases h1 : s.size = a
    · rw [if_pos (.inl h1)]
      exact Ev.step (fun k => by rw [spec_l2Read.j1, if_pos (by omega)]) (j2t _)
    · refine Ev.step (fun k => by rw [spec_l2Read.j1, if_neg (by omega), wrap_in (n := (s.size : Int) - (a : Int)) (by omega) (by omega)]) ?_
      by_cases h2 : s.size - a > 10
      · rw [if_pos (.inr h2), decide_eq_true (show (s.size : Int) - (a : Int) > 10 by omega)]
        exact j2t _
      · rw [if_neg (by omega), decide_eq_false (show ¬ (s.size : Int) - (a : Int) > 10 by omega)]
        refine Ev.step (fun k => by rw [spec_l2Read.j2, if_neg (by simp)]) ?_
        exact read_l0 s hs (a : Int) (s.size - a) a 0 (by omega) (by omega) (by have := tens_le (show s.size - a ≤ 10 by omega); omega)
  have j0 : ∀ b : Bool, (b = true ↔ atOf s = 1) → Ev (fun k => spec_l2Read.j0 k s 0 b) (readOf s) := by
    intro b hb
    have hle : atOf s ≤ s.size := by
      unfold atOf
      split
      · omega
      · omega
    cases b with
    | true => exact Ev.step (fun k => by rw [spec_l2Read.j0, if_pos rfl]; rfl) (j1 1 (by have := hb.mp rfl; omega) (hb.mp rfl).symm)
    | false =>
      have h0 : atOf s = 0 := by
        have h1 : atOf s ≠ 1 := fun h => by have := hb.mpr h; simp at this
        unfold atOf at h1 ⊢
        split
        · rename_i h; rw [if_pos h] at h1; exact absurd rfl h1
        · rfl
      exact Ev.step (fun k => by rw [spec_l2Read.j0, if_neg (by simp)]; rfl) (j1 0 (by omega) h0.symm)
  simp only [spec_l2Read.f]
  by_cases h : (s.size : Int) > 1
  · refine Ev.ite_pos h (Ev.ite_pos (by omega) ?_)
    have hl : 0 < s.data.toList.length := by omega
    have hb := bt_data s 0 hl
    rw [show bt s 0 = _ from hb]
    refine j0 _ ?_
    unfold atOf
    have hh : s.data.toList.head? = some s.data.toList[0] := by rw [List.head?_eq_getElem?, List.getElem?_eq_getElem hl]
    rw [hh, beq_iff_eq]
    constructor
    · intro e
      have e2 : (s.data.toList[0]).toNat = (45 : UInt8).toNat := by
        show _ = 45
        omega
      rw [if_pos ⟨by omega, by rw [UInt8.toNat_inj.mp e2]⟩]
    · intro e
      split at e
      · rename_i h2
        rw [Option.some.inj h2.2]
        rfl
      · omega
  · refine Ev.ite_neg h (j0 false ?_)
    unfold atOf
    rw [if_neg (by omega)]
    simp
theorem readD_dig : ∀ (l : List UInt8) (v : Nat), AllDig l → readD (some (v : Int)) l = some ((valD v l : Nat) : Int)
  | [], v, _ => rfl
  | c :: l, v, h => by
    have hc := h c List.mem_cons_self
    rw [readD_cons, valD_cons]
    have e : stepR (some (v : Int)) c = some ((v * 10 + (c.toNat - 48) : Nat) : Int) := by
      unfold stepR
      rw [Option.bind_some, if_neg (by omega), if_neg (by omega)]
      congr 1
      omega
    rw [e]
    exact readD_dig l _ (fun d hd => h d (List.mem_cons_of_mem _ hd))
theorem dec_len (u : Nat) (h : u < 10 ^ 10) : (Lib.decDigits u).length ≤ 10 := by
  by_cases h0 : u = 0
  · subst h0
    rw [Lib.decDigits, dif_pos (by omega)]
    simp
  · have := dd_length h
    unfold dd at this
    rw [if_neg h0] at this
    exact this
theorem readOf_num {n : Int} (h : Sm n) : readOf (num n) = (n, true) := by
  have hdata : (num n).data.toList = Lib.itoa n := by rw [num_ba, data_ba]
  have hd : (num n).size = (Lib.itoa n).length := by rw [size_data, hdata]
  unfold Sm at h
  unfold Lib.itoa at hd hdata
  by_cases hn : n < 0
  · rw [if_pos hn] at hd hdata
    obtain ⟨c, r, e⟩ := dec_ne n.natAbs
    rw [List.length_cons] at hd
    have hl1 := dec_len n.natAbs (by omega)
    have hl2 : 1 ≤ (Lib.decDigits n.natAbs).length := by rw [e]; simp
    obtain ⟨h1, h2⟩ := dec_val n.natAbs
    have ha : atOf (num n) = 1 := by
      unfold atOf
      rw [if_pos ⟨by omega, by rw [hdata]; rfl⟩]
    unfold readOf
    rw [ha, hdata]
    rw [if_neg (by omega), List.drop_succ_cons, List.drop_zero]
    have hr := readD_dig (Lib.decDigits n.natAbs) 0 h2
    rw [h1] at hr
    rw [show readD (some 0) (Lib.decDigits n.natAbs) = some ((n.natAbs : Nat) : Int) from hr]
    simp only [finR]
    rw [if_pos (by rfl), show -((n.natAbs : Nat) : Int) = n by omega]
    simp
  · rw [if_neg hn] at hd hdata
    obtain ⟨c, r, e⟩ := dec_ne n.toNat
    have hl1 := dec_len n.toNat (by omega)
    have hl2 : 1 ≤ (Lib.decDigits n.toNat).length := by rw [e]; simp
    obtain ⟨h1, h2⟩ := dec_val n.toNat
    have ha : atOf (num n) = 0 := by
      unfold atOf
      rw [if_neg]
      rintro ⟨_, hh⟩
      rw [hdata, e] at hh
      have hc : c = 45 := by simpa using hh
      have := h2 c (by rw [e]; exact List.mem_cons_self)
      rw [hc] at this
      exact absurd this (by decide)
    unfold readOf
    rw [ha, hdata]
    rw [if_neg (by omega), List.drop_zero]
    have hr := readD_dig (Lib.decDigits n.toNat) 0 h2
    rw [h1] at hr
    rw [show readD (some 0) (Lib.decDigits n.toNat) = some ((n.toNat : Nat) : Int) from hr]
    simp only [finR]
    rw [if_neg (by simp), show ((n.toNat : Nat) : Int) = n by omega]
    simp
theorem rdS {l : List ByteArray} {j : Nat} (h : j < l.length) : rdOf ByteArray.empty l (j : Int) = l[j] := by
  simp [rdOf, List.getD_eq_getElem?_getD, h]
theorem data_iff {s t : ByteArray} : s.toList = t.toList ↔ s.data.toList = t.data.toList := by rw [ByteArray.toList_eq, ByteArray.toList_eq]
def opI (x : ByteArray) : List ByteArray → Nat → Int
  | [], _ => 0
  | n :: ns, j => if n.data.toList = x.data.toList then ((j + 1 : Nat) : Int) else opI x ns (j + 1)
def opS (x : ByteArray) : List ByteArray → Nat → Int → Int
  | [], _, v => v
  | n :: ns, j, v => if n.data.toList = x.data.toList then opS x ns (j + 1) (j : Int) else opS x ns (j + 1) v
theorem opOf_l0 (x : ByteArray) (ns : List ByteArray) (hn : ns.length ≤ 100) : ∀ d (j : Nat), j + d = ns.length → Ev (fun k => impl_opOf.l0 k x ns (ns.length : Int) (j : Int)) (opI x (ns.drop j) j) := by
  intro d
  induction d with
  | zero =>
    intro j hj
    rw [List.drop_eq_nil_of_le (by omega)]
    exact Ev.one fun k => by rw [impl_opOf.l0, if_neg (by omega)]; rfl
  | succ d ih =>
    intro j hj
    have hl : j < ns.length := by omega
    rw [List.drop_eq_getElem_cons hl, opI]
    have ew : wrap64 ((j : Int) + 1) = ((j + 1 : Nat) : Int) := wrap_in (by omega) (by omega)
    by_cases hc : ns[j].data.toList = x.data.toList
    · rw [if_pos hc]
      exact Ev.one fun k => by rw [impl_opOf.l0, if_pos (by omega), if_pos (by omega), if_pos (by omega), rdS hl, if_pos (data_iff.mpr hc), ew]
    · rw [if_neg hc]
      exact Ev.step (fun k => by rw [impl_opOf.l0, if_pos (by omega), if_pos (by omega), if_pos (by omega), rdS hl, if_neg (fun h => hc (data_iff.mp h)), ew]) (ih (j + 1) (by omega))
def names : List ByteArray := [(⟨#[115, 101, 116]⟩ : ByteArray), (⟨#[97, 100, 100]⟩ : ByteArray), (⟨#[115, 117, 98]⟩ : ByteArray), (⟨#[108, 101, 115, 115]⟩ : ByteArray), (⟨#[115, 101, 110, 100]⟩ : ByteArray), (⟨#[116, 97, 107, 101]⟩ : ByteArray), (⟨#[116, 114, 121, 115, 101, 110, 100]⟩ : ByteArray), (⟨#[116, 114, 121, 116, 97, 107, 101]⟩ : ByteArray), (⟨#[99, 108, 111, 115, 101]⟩ : ByteArray), (⟨#[112, 114, 105, 110, 116]⟩ : ByteArray), (⟨#[106, 117, 109, 112]⟩ : ByteArray), (⟨#[122, 101, 114, 111]⟩ : ByteArray), (⟨#[101, 110, 100]⟩ : ByteArray)]
theorem impl_opOf_ev (x : ByteArray) : Ev (fun k => impl_opOf.f k x) (opI x names 0) := by
  simp only [impl_opOf.f, Option.bind_some]
  exact opOf_l0 x names (by decide) 13 0 (by decide)
theorem op_name (op : Int) (h0 : 1 ≤ op) (h1 : op ≤ 13) : opI (nameOf op) names 0 = op ∧ opS (nameOf op) names 1 0 = op := by
  rcases op_cases op with rfl | rfl | rfl | rfl | rfl | rfl | rfl | rfl | rfl | rfl | rfl | rfl | rfl | h
  case inr.inr.inr.inr.inr.inr.inr.inr.inr.inr.inr.inr.inr => omega
  all_goals decide
abbrev Res := Int × Int × Int × Int × Int × Bool
def zeroR : Res := (0, 0, 0, 0, 0, false)
def resOf (s : ByteArray) (op r a b n : Int) : Res := if s.size = 0 then zeroR else if insText op r a b n = s then (op, r, a, b, n, true) else zeroR
def putR (s : ByteArray) (op x y z : Int) : Res :=
  if op = 1 then resOf s op x 0 0 y else if op = 2 ∨ op = 3 ∨ op = 4 then resOf s op x y z 0 else if op = 5 then resOf s op 0 y 0 x else if op = 6 ∨ op = 8 then resOf s op x 0 y z else if op = 7 then resOf s op x z 0 y else if op = 9 ∨ op = 11 then resOf s op 0 0 0 x else if op = 10 then resOf s op 0 x 0 0 else if op = 12 then resOf s op 0 x 0 y else resOf s op 0 0 0 0
def endR (s : ByteArray) (op : Int) (l : List Int) : Res := putR s op (rd (l ++ [0, 0, 0]) 0) (rd (l ++ [0, 0, 0]) 1) (rd (l ++ [0, 0, 0]) 2)
theorem nil_iff {s : ByteArray} : s.toList = ([] : List UInt8) ↔ s.size = 0 := toList_nil
theorem impl_j4_ev (s : ByteArray) (op r a b n : Int) : Ev (fun k => impl_InsRead.j4 k s op r a b n) (resOf s op r a b n) := by
  refine Ev.step (fun k => by rw [impl_InsRead.j4]) (Ev.bind (impl_InsText_ev ..) ?_)
  unfold resOf
  by_cases h1 : insText op r a b n = s
  · by_cases h0 : s.size = 0
    · rw [if_pos h0]
      exact Ev.ite_pos (nil_iff.mpr (by rw [h1]; exact h0)) (Ev.now _)
    · have e : (if s.size = 0 then zeroR else if insText op r a b n = s then (op, r, a, b, n, true) else zeroR) = (op, r, a, b, n, true) := by rw [if_neg h0, if_pos h1]
      rw [e]
      exact Ev.ite_neg (fun h => h0 (by rw [← h1]; exact nil_iff.mp h)) (Ev.ite_pos (toList_inj.mpr h1) (Ev.now _))
  · have e : (if s.size = 0 then zeroR else if insText op r a b n = s then (op, r, a, b, n, true) else zeroR) = zeroR := by rw [if_neg h1, ite_self]
    rw [e]
    by_cases h2 : (insText op r a b n).toList = ([] : List UInt8)
    · exact Ev.ite_pos h2 (Ev.now _)
    · exact Ev.ite_neg h2 (Ev.ite_neg (fun h => h1 (toList_inj.mp h)) (Ev.now _))
theorem impl_put_ev (s : ByteArray) (op x y z : Int) : Ev (fun k => if op = 1 then (impl_InsRead.j4 k s op x 0 0 y) else (if op = 2 then (impl_InsRead.j1 k s x y z op (op == 2) op 0 0 0 0) else (if op = 3 then (impl_InsRead.j1 k s x y z op (op == 3) op 0 0 0 0) else (impl_InsRead.j1 k s x y z op (op == 4) op 0 0 0 0)))) (putR s op x y z) := by
  have key : ∃ r a b n, putR s op x y z = resOf s op r a b n ∧ ∀ k, (if op = 1 then (impl_InsRead.j4 (k + 3) s op x 0 0 y) else (if op = 2 then (impl_InsRead.j1 (k + 3) s x y z op (op == 2) op 0 0 0 0) else (if op = 3 then (impl_InsRead.j1 (k + 3) s x y z op (op == 3) op 0 0 0 0) else (impl_InsRead.j1 (k + 3) s x y z op (op == 4) op 0 0 0 0)))) = impl_InsRead.j4 k s op r a b n ∨ (if op = 1 then (impl_InsRead.j4 (k + 3) s op x 0 0 y) else (if op = 2 then (impl_InsRead.j1 (k + 3) s x y z op (op == 2) op 0 0 0 0) else (if op = 3 then (impl_InsRead.j1 (k + 3) s x y z op (op == 3) op 0 0 0 0) else (impl_InsRead.j1 (k + 3) s x y z op (op == 4) op 0 0 0 0)))) = impl_InsRead.j4 (k + 1) s op r a b n ∨ (if op = 1 then (impl_InsRead.j4 (k + 3) s op x 0 0 y) else (if op = 2 then (impl_InsRead.j1 (k + 3) s x y z op (op == 2) op 0 0 0 0) else (if op = 3 then (impl_InsRead.j1 (k + 3) s x y z op (op == 3) op 0 0 0 0) else (impl_InsRead.j1 (k + 3) s x y z op (op == 4) op 0 0 0 0)))) = impl_InsRead.j4 (k + 2) s op r a b n ∨ (if op = 1 then (impl_InsRead.j4 (k + 3) s op x 0 0 y) else (if op = 2 then (impl_InsRead.j1 (k + 3) s x y z op (op == 2) op 0 0 0 0) else (if op = 3 then (impl_InsRead.j1 (k + 3) s x y z op (op == 3) op 0 0 0 0) else (impl_InsRead.j1 (k + 3) s x y z op (op == 4) op 0 0 0 0)))) = impl_InsRead.j4 (k + 3) s op r a b n := by
    rcases op_cases op with rfl | rfl | rfl | rfl | rfl | rfl | rfl | rfl | rfl | rfl | rfl | rfl | rfl | h
    case inr.inr.inr.inr.inr.inr.inr.inr.inr.inr.inr.inr.inr =>
      have e : ∀ c : Int, 1 ≤ c → c ≤ 13 → ¬ op = c := fun c h0 h1 => by omega
      refine ⟨0, 0, 0, 0, ?_, fun k => .inl ?_⟩
      · simp [putR, e 1 (by omega) (by omega), e 2 (by omega) (by omega), e 3 (by omega) (by omega), e 4 (by omega) (by omega), e 5 (by omega) (by omega), e 6 (by omega) (by omega), e 7 (by omega) (by omega), e 8 (by omega) (by omega), e 9 (by omega) (by omega), e 10 (by omega) (by omega), e 11 (by omega) (by omega), e 12 (by omega) (by omega)]
      · simp [impl_InsRead.j1, impl_InsRead.j2, impl_InsRead.j3, e 1 (by omega) (by omega), e 2 (by omega) (by omega), e 3 (by omega) (by omega), e 4 (by omega) (by omega), e 5 (by omega) (by omega), e 6 (by omega) (by omega), e 7 (by omega) (by omega), e 8 (by omega) (by omega), e 9 (by omega) (by omega), e 10 (by omega) (by omega), e 11 (by omega) (by omega), e 12 (by omega) (by omega)]
    all_goals
      refine ⟨_, _, _, _, by simp only [putR]; rfl, fun k => ?_⟩
      first
        | exact .inr (.inr (.inr rfl))
        | exact .inr (.inr (.inl rfl))
        | exact .inr (.inl rfl)
        | exact .inl rfl
  obtain ⟨r, a, b, n, e, hk⟩ := key
  rw [e]
  obtain ⟨m, hm⟩ := impl_j4_ev s op r a b n
  refine ⟨m + 3, fun k hk2 => ?_⟩
  obtain ⟨i, rfl⟩ : ∃ i, k = i + 3 := ⟨k - 3, by omega⟩
  rcases hk i with h | h | h | h
  all_goals
    refine h.trans (hm _ (by omega))
def loopI (s : ByteArray) (op : Int) : List Int → List ByteArray → Res
  | acc, [] => endR s op acc
  | acc, p :: ps => match Lib.atoiAll p.data.toList with
    | .ok v => loopI s op (acc ++ [v]) ps
    | _ => zeroR
theorem impl_loop (s x : ByteArray) (parts ps : List ByteArray) (hp : 0 < parts.length) (hx : rdOf ByteArray.empty parts 0 = x) (hps : ps.length ≤ 1048577) (hsz : ∀ p ∈ ps, p.size ≤ 1048576) : ∀ d (j : Nat) (acc : List Int), j + d = ps.length → acc.length = j → Ev (fun k => impl_InsRead.l0 k s parts acc ps (ps.length : Int) (j : Int)) (loopI s (opI x names 0) acc (ps.drop j)) := by
  intro d
  induction d with
  | zero =>
    intro j acc hj ha
    rw [List.drop_eq_nil_of_le (by omega), loopI]
    refine Ev.step (fun k => by rw [impl_InsRead.l0, if_neg (by omega), impl_copyInts_eq acc (by omega), Option.bind_some, Option.bind_some, if_pos (by simp; omega), Option.bind_some, if_pos (by simp; omega), if_pos (by simp; omega), if_pos (by simp; omega), if_pos (by omega), hx]) ?_
    refine Ev.bind (impl_opOf_ev x) ?_
    exact impl_put_ev s (opI x names 0) _ _ _
  | succ d ih =>
    intro j acc hj ha
    have hl : j < ps.length := by omega
    have hz := hsz ps[j] (List.getElem_mem hl)
    have ew : wrap64 ((j : Int) + 1) = ((j + 1 : Nat) : Int) := wrap_in (by omega) (by omega)
    rw [List.drop_eq_getElem_cons hl, loopI]
    cases hq : Lib.atoiAll ps[j].data.toList with
    | ok v =>
      have ea : strconv_Atoi_102.f ps[j] = some (v, none) := by
        unfold strconv_Atoi_102.f TabT.atoiF
        rw [if_pos (by omega), hq]
      exact Ev.step (fun k => by rw [impl_InsRead.l0, if_pos (by omega), if_pos (by omega), if_pos (by omega), rdS hl, ea, Option.bind_some, if_pos (show (((v, none) : Int × Option Int).2).isNone = true from rfl), if_pos (by omega), ew]) (ih (j + 1) _ (by omega) (by simp; omega))
    | «syntax» =>
      have ea : strconv_Atoi_102.f ps[j] = some (0, some 0) := by
        unfold strconv_Atoi_102.f TabT.atoiF
        rw [if_pos (by omega), hq]
      exact Ev.one fun k => by rw [impl_InsRead.l0, if_pos (by omega), if_pos (by omega), if_pos (by omega), rdS hl, ea, Option.bind_some, if_neg (by simp)]; rfl
    | range =>
      have ea : strconv_Atoi_102.f ps[j] = some (Lib.atoiSat ps[j].data.toList, some 0) := by
        unfold strconv_Atoi_102.f TabT.atoiF
        rw [if_pos (by omega), hq]
      exact Ev.one fun k => by rw [impl_InsRead.l0, if_pos (by omega), if_pos (by omega), if_pos (by omega), rdS hl, ea, Option.bind_some, if_neg (by simp)]; rfl
theorem spec_l2Put_ev (s : ByteArray) (op : Int) (l : List Int) (h : 3 ≤ l.length) : ∃ r a b n, Ev (fun k => spec_l2Put.f k op l) (op, r, a, b, n) ∧ putR s op (rd l 0) (rd l 1) (rd l 2) = resOf s op r a b n := by
  have e0 : (0 : Int) < (l.length : Int) := by omega
  have e1 : (1 : Int) < (l.length : Int) := by omega
  have e2 : (2 : Int) < (l.length : Int) := by omega
  have en : ¬ l = [] := fun h0 => by rw [h0] at h; simp at h
  have fin : ∀ r a b n, putR s op (rd l 0) (rd l 1) (rd l 2) = resOf s op r a b n → (∀ k, spec_l2Put.f (k + 3) op l = some (op, r, a, b, n)) → ∃ r a b n, Ev (fun k => spec_l2Put.f k op l) (op, r, a, b, n) ∧ putR s op (rd l 0) (rd l 1) (rd l 2) = resOf s op r a b n := fun r a b n hp hk =>
    ⟨r, a, b, n, ⟨3, fun k hk2 => by
      obtain ⟨i, rfl⟩ : ∃ i, k = i + 3 := ⟨k - 3, by omega⟩
      exact hk i⟩, hp⟩
  rcases op_cases op with rfl | rfl | rfl | rfl | rfl | rfl | rfl | rfl | rfl | rfl | rfl | rfl | rfl | h
  case inr.inr.inr.inr.inr.inr.inr.inr.inr.inr.inr.inr.inr =>
    have e : ∀ c : Int, 1 ≤ c → c ≤ 13 → ¬ op = c := fun c h0 h1 => by omega
    refine fin 0 0 0 0 ?_ fun k => ?_
    · simp [putR, e 1 (by omega) (by omega), e 2 (by omega) (by omega), e 3 (by omega) (by omega), e 4 (by omega) (by omega), e 5 (by omega) (by omega), e 6 (by omega) (by omega), e 7 (by omega) (by omega), e 8 (by omega) (by omega), e 9 (by omega) (by omega), e 10 (by omega) (by omega), e 11 (by omega) (by omega), e 12 (by omega) (by omega)]
    · simp [spec_l2Put.f, spec_l2Put.j0, spec_l2Put.j1, spec_l2Put.j2, e 1 (by omega) (by omega), e 2 (by omega) (by omega), e 3 (by omega) (by omega), e 4 (by omega) (by omega), e 5 (by omega) (by omega), e 6 (by omega) (by omega), e 7 (by omega) (by omega), e 8 (by omega) (by omega), e 9 (by omega) (by omega), e 10 (by omega) (by omega), e 11 (by omega) (by omega), e 12 (by omega) (by omega)]
  all_goals
    refine fin _ _ _ _ (by simp only [putR]; rfl) fun k => ?_
    simp [spec_l2Put.f, spec_l2Put.j0, spec_l2Put.j1, spec_l2Put.j2, e0, e1, e2, en]
theorem spec_end_ev (s : ByteArray) (ws : List ByteArray) (op : Int) (acc : List Int) (i : Int) (h : acc.length ≤ 100) : Ev (fun k => spec_InsRead.j2 k s ws op acc i false) (endR s op acc) := by
  obtain ⟨r, a, b, n, hp, he⟩ := spec_l2Put_ev s op (acc ++ [0, 0, 0]) (by simp)
  unfold endR
  rw [he]
  refine Ev.step (fun k => by rw [spec_InsRead.j2, if_neg (by simp), Option.bind_some, if_pos (by simp; omega)]) (Ev.bind hp ?_)
  unfold resOf
  by_cases h0 : s.size = 0
  · rw [if_pos h0]
    exact Ev.ite_pos (nil_iff.mpr h0) (Ev.now _)
  · rw [if_neg h0]
    refine Ev.ite_neg (fun h => h0 (nil_iff.mp h)) (Ev.bind (spec_InsText_ev ..) ?_)
    by_cases h1 : insText op r a b n = s
    · rw [if_pos h1]
      exact Ev.ite_pos (toList_inj.mpr h1) (Ev.now _)
    · rw [if_neg h1]
      exact Ev.ite_neg (fun h => h1 (toList_inj.mp h)) (Ev.now _)
def loopS (s : ByteArray) (op : Int) : List Int → List ByteArray → Res
  | acc, [] => endR s op acc
  | acc, p :: ps => if (readOf p).2 = true then loopS s op (acc ++ [(readOf p).1]) ps else zeroR
theorem spec_loop (s : ByteArray) (ws : List ByteArray) (op : Int) (hsz : ∀ p ∈ ws, p.size ≤ 1048576) : ∀ d (i : Nat) (acc : List Int), i + d = 5 → acc.length ≤ i → Ev (fun k => spec_InsRead.l1 k s ws op acc (i : Int)) (loopS s op acc ((ws.drop i).take d)) := by
  intro d
  induction d with
  | zero =>
    intro i acc hi ha
    rw [List.take_zero, loopS]
    by_cases h : (i : Int) < (ws.length : Int)
    · refine Ev.step (fun k => by rw [spec_InsRead.l1, if_pos h, decide_eq_false (by omega)]) (spec_end_ev s ws op acc _ (by omega))
    · refine Ev.step (fun k => by rw [spec_InsRead.l1, if_neg h]) (spec_end_ev s ws op acc _ (by omega))
  | succ d ih =>
    intro i acc hi ha
    by_cases hl : i < ws.length
    · rw [List.drop_eq_getElem_cons hl, List.take_succ_cons, loopS]
      have hz := hsz ws[i] (List.getElem_mem hl)
      have ew : wrap64 ((i : Int) + 1) = ((i + 1 : Nat) : Int) := wrap_in (by omega) (by omega)
      refine Ev.step (fun k => by rw [spec_InsRead.l1, if_pos (by omega), decide_eq_true (by omega)]) ?_
      refine Ev.step (fun k => by rw [spec_InsRead.j2, if_pos rfl, if_pos (by omega), if_pos (by omega), rdS hl]) (Ev.bind (spec_l2Read_ev _ hz) ?_)
      by_cases hr : (readOf ws[i]).2 = true
      · rw [if_pos hr]
        refine Ev.ite_pos hr (Ev.ite_pos (by omega) ?_)
        rw [ew]
        exact ih (i + 1) _ (by omega) (by simp; omega)
      · rw [if_neg hr]
        exact Ev.ite_neg hr (Ev.now _)
    · rw [List.drop_eq_nil_of_le (by omega), List.take_nil, loopS]
      exact Ev.step (fun k => by rw [spec_InsRead.l1, if_neg (by omega)]) (spec_end_ev s ws op acc _ (by omega))
theorem spec_names (s x : ByteArray) (ws ns : List ByteArray) (hw : 0 < ws.length) (hx : rdOf ByteArray.empty ws 0 = x) (hn : ns.length ≤ 100) (R : Int → Res) (hR : ∀ v, Ev (fun k => spec_InsRead.l1 k s ws v (([] : List Int)) 1) (R v)) : ∀ d (j : Nat) (v : Int), j + d = ns.length → Ev (fun k => spec_InsRead.l0 k s ws ns v (j : Int)) (R (opS x (ns.drop j) j v)) := by
  intro d
  induction d with
  | zero =>
    intro j v hj
    rw [List.drop_eq_nil_of_le (by omega), opS]
    exact Ev.step (fun k => by rw [spec_InsRead.l0, if_neg (by omega)]) (hR v)
  | succ d ih =>
    intro j v hj
    have hl : j < ns.length := by omega
    have ew : wrap64 ((j : Int) + 1) = ((j + 1 : Nat) : Int) := wrap_in (by omega) (by omega)
    rw [List.drop_eq_getElem_cons hl, opS]
    by_cases hc : ns[j].data.toList = x.data.toList
    · rw [if_pos hc]
      exact Ev.step (fun k => by rw [spec_InsRead.l0, if_pos (by omega), if_pos (by omega), if_pos (by omega), rdS hl, hx, if_pos (data_iff.mpr hc), ew]) (ih (j + 1) _ (by omega))
    · rw [if_neg hc]
      exact Ev.step (fun k => by rw [spec_InsRead.l0, if_pos (by omega), if_pos (by omega), if_pos (by omega), rdS hl, hx, if_neg (fun h => hc (data_iff.mp h)), ew]) (ih (j + 1) _ (by omega))
def wordsS (s : ByteArray) : List ByteArray := (cutW [] s.data.toList).map ba
def headOf (l : List ByteArray) : ByteArray := rdOf ByteArray.empty l 0
def implR (s : ByteArray) : Res := loopI s (opI (headOf (partsOf s)) names 0) [] ((partsOf s).drop 1)
def specR (s : ByteArray) : Res := loopS s (opS (headOf (wordsS s)) names 1 0) [] ((wordsS s).drop 1 |>.take 4)
theorem impl_InsRead_ev (s : ByteArray) (hs : s.size ≤ 1048576) : Ev (fun k => impl_InsRead.f k s) (implR s) := by
  obtain ⟨h1, h2, h3⟩ := parts_facts s hs
  simp only [impl_InsRead.f, impl_Split_eq s hs, Option.bind_some]
  refine Ev.ite_pos (by omega) ?_
  exact impl_loop s _ (partsOf s) ((partsOf s).drop 1) (by omega) rfl (by simp; omega) (fun p hp => h3 p (List.mem_of_mem_drop hp)) _ 0 [] (Nat.zero_add _) rfl
theorem spec_InsRead_ev (s : ByteArray) (hs : s.size ≤ 1048576) : Ev (fun k => spec_InsRead.f k s) (specR s) := by
  simp only [spec_InsRead.f]
  refine Ev.bind (spec_l2Words_ev s hs) ?_
  simp only [spec_l2Names.f, Option.bind_some]
  have hsz : ∀ p ∈ wordsS s, p.size ≤ 1048576 := by
    intro p hp
    obtain ⟨w, hw, rfl⟩ := List.mem_map.mp hp
    have := cutW_len _ _ _ hw
    rw [size_data, data_ba]
    simp at this
    omega
  have hl : 0 < (wordsS s).length := by
    obtain ⟨w, ws, e⟩ := cutW_ne s.data.toList []
    unfold wordsS
    rw [e]
    simp
  exact spec_names s _ (wordsS s) ((⟨#[]⟩ : ByteArray) :: names) hl rfl (by decide) (fun v => loopS s v [] ((wordsS s).drop 1 |>.take 4)) (fun v => spec_loop s _ v hsz 4 1 [] rfl (by simp)) 13 1 0 (by decide)
theorem loopI_nums (s : ByteArray) (op : Int) : ∀ (l acc : List Int), (∀ n ∈ l, Sm n) → loopI s op acc (l.map num) = endR s op (acc ++ l)
  | [], acc, _ => by rw [List.map_nil, loopI, List.append_nil]
  | n :: l, acc, h => by
    have hn := h n List.mem_cons_self
    rw [List.map_cons, loopI, num_ba, data_ba, atoi_itoa hn]
    show loopI s op (acc ++ [n]) (l.map num) = _
    rw [loopI_nums s op l _ (fun m hm => h m (List.mem_cons_of_mem _ hm))]
    simp
theorem loopS_nums (s : ByteArray) (op : Int) : ∀ (l acc : List Int), (∀ n ∈ l, Sm n) → loopS s op acc (l.map num) = endR s op (acc ++ l)
  | [], acc, _ => by rw [List.map_nil, loopS, List.append_nil]
  | n :: l, acc, h => by
    have hn := h n List.mem_cons_self
    rw [List.map_cons, loopS, readOf_num hn]
    rw [if_pos rfl, loopS_nums s op l _ (fun m hm => h m (List.mem_cons_of_mem _ hm))]
    simp
theorem numsOf_sm {op r a b n : Int} (h : insOk op r a b n 24 3 = true) : ∀ m ∈ numsOf op r a b n, Sm m := by
  have hs : Sm r ∧ Sm a ∧ Sm b ∧ Sm n := by
    unfold insOk at h
    rw [decide_eq_true_eq] at h
    obtain ⟨h1, h2, h3, h4, h5⟩ := h
    unfold Sm
    rcases h5 with h | h | h | h | h | h | h | h | h | h <;> omega
  obtain ⟨hr, ha, hb, hn⟩ := hs
  intro m hm
  unfold numsOf at hm
  repeat' split at hm
  all_goals
    simp only [List.mem_cons, List.not_mem_nil, or_false] at hm
    try (rcases hm with rfl | rfl | rfl <;> assumption)
    try (rcases hm with rfl | rfl <;> assumption)
    try (subst hm; assumption)
theorem map_ba_itoa (l : List Int) : (l.map Lib.itoa).map ba = l.map num := by
  rw [List.map_map]
  rfl
theorem own_noSp {op r a b n : Int} : ∀ x ∈ (numsOf op r a b n).map Lib.itoa, NoSp x := by
  intro x hx
  obtain ⟨m, _, rfl⟩ := List.mem_map.mp hx
  exact itoa_noSp m
theorem parts_own {op r a b n : Int} (h : insOk op r a b n 24 3 = true) : partsOf (wordsOf (nameOf op) (numsOf op r a b n)) = nameOf op :: (numsOf op r a b n).map num := by
  obtain ⟨⟨h0, h1⟩, _⟩ := ins_in h
  have hd := words_data (numsOf op r a b n) (nameOf op)
  have e := parts_data (wordsOf (nameOf op) (numsOf op r a b n))
  rw [hd, splitK_glue _ _ (name_noSp op h0 h1) own_noSp] at e
  have e2 := congrArg (List.map ba) e
  rw [List.map_map, List.map_cons, map_ba_itoa, ba_data] at e2
  rw [← e2]
  have : (ba ∘ fun x : ByteArray => x.data.toList) = id := funext fun x => ba_data x
  rw [this, List.map_id]
theorem read_same (s : ByteArray) : implR s = specR s := by
  by_cases hg : ∃ op r a b n, insOk op r a b n 24 3 = true ∧ s = wordsOf (nameOf op) (numsOf op r a b n)
  · obtain ⟨op, r, a, b, n, h, rfl⟩ := hg
    obtain ⟨⟨h0, h1⟩, _⟩ := ins_in h
    have hsm := numsOf_sm h
    have hd := words_data (numsOf op r a b n) (nameOf op)
    have hns : ∀ x ∈ (numsOf op r a b n).map Lib.itoa, NoSp x := by
      intro x hx
      obtain ⟨m, _, rfl⟩ := List.mem_map.mp hx
      exact itoa_noSp m
    have hlen := numsOf_length op r a b n
    have hp : partsOf (wordsOf (nameOf op) (numsOf op r a b n)) = nameOf op :: (numsOf op r a b n).map num := by
      have e := parts_data (wordsOf (nameOf op) (numsOf op r a b n))
      rw [hd, splitK_glue _ _ (name_noSp op h0 h1) hns] at e
      have e2 := congrArg (List.map ba) e
      rw [List.map_map, List.map_cons, map_ba_itoa, ba_data] at e2
      rw [← e2]
      have : (ba ∘ fun x : ByteArray => x.data.toList) = id := funext fun x => ba_data x
      rw [this, List.map_id]
    have hw : wordsS (wordsOf (nameOf op) (numsOf op r a b n)) = nameOf op :: (numsOf op r a b n).map num := by
      unfold wordsS
      rw [hd, cutW_glue _ _ _ (name_noSp op h0 h1) hns, List.nil_append, List.map_cons, map_ba_itoa, ba_data]
    obtain ⟨ho1, ho2⟩ := op_name op h0 h1
    unfold implR specR
    rw [hp, hw]
    have eh : headOf (nameOf op :: (numsOf op r a b n).map num) = nameOf op := rfl
    rw [eh, ho1, ho2, List.drop_succ_cons, List.drop_zero, List.take_of_length_le (by simp; omega), loopI_nums _ _ _ _ hsm, loopS_nums _ _ _ _ hsm]
  · have hz : ∀ op r a b n, resOf s op r a b n = zeroR := by
      intro op r a b n
      unfold resOf
      split
      · rfl
      · rename_i h0
        rw [if_neg]
        intro e
        unfold insText at e
        by_cases hi : insOk op r a b n 24 3 = true
        · rw [if_pos hi] at e
          exact hg ⟨op, r, a, b, n, hi, e.symm⟩
        · rw [if_neg hi] at e
          rw [← e] at h0
          exact h0 rfl
    have hend : ∀ op l, endR s op l = zeroR := by
      intro op l
      unfold endR putR
      simp only [hz, ite_self]
    have hI : ∀ op (l : List ByteArray) acc, loopI s op acc l = zeroR := by
      intro op l
      induction l with
      | nil => intro acc; exact hend _ _
      | cons p l ih =>
        intro acc
        rw [loopI]
        cases Lib.atoiAll p.data.toList with
        | ok v => exact ih _
        | «syntax» => rfl
        | range => rfl
    have hS : ∀ op (l : List ByteArray) acc, loopS s op acc l = zeroR := by
      intro op l
      induction l with
      | nil => intro acc; exact hend _ _
      | cons p l ih =>
        intro acc
        rw [loopS]
        split
        · exact ih _
        · rfl
    unfold implR specR
    rw [hI, hS]
theorem and255 (n : Int) : Go.bits .and .i64 n 255 = n % 256 := by
  have h : (BitVec.ofInt 64 255).toNat = 2 ^ 8 - 1 := by decide
  have key : (BitVec.ofInt 64 n &&& BitVec.ofInt 64 255).toNat = (n % ((2 ^ 64 : Nat) : Int)).toNat % 2 ^ 8 := by
    rw [BitVec.toNat_and, BitVec.toNat_ofInt, h, Nat.and_two_pow_sub_one_eq_mod]
  show IntKind.i64.wrap ((BitVec.ofInt 64 n &&& BitVec.ofInt 64 255).toNat : Nat) = n % 256
  rw [key, IntKind.wrap_i64]
  omega
def Cur (b : List Int) (i : Int) : Prop := 0 ≤ i ∧ i ≤ (b.length : Int) ∧ (b.length : Int) ≤ 1048576
theorem l1Byte_eq (b : List Int) (i h : Int) (c : Cur b i) : ∃ x i' h', spec_l1Byte.f b i h = some (x, i', h') ∧ (0 ≤ x ∧ x ≤ 255) ∧ Cur b i' := by
  obtain ⟨c0, c1, c2⟩ := c
  unfold spec_l1Byte.f
  by_cases e : i < (b.length : Int)
  · rw [if_pos e, if_pos c0, and255, wrap_in (n := i + 1) (by omega) (by omega)]
    exact ⟨_, _, _, rfl, by omega, by omega, by omega, c2⟩
  · rw [if_neg e, and255]
    exact ⟨_, _, _, rfl, by omega, c0, c1, c2⟩
theorem l1Below_eq (b : List Int) (i h n : Int) (c : Cur b i) : ∃ x i' h', spec_l1Below.f b i h n = some (x, i', h') ∧ (0 ≤ x ∧ (0 < n → x < n) ∧ (n ≤ 0 → x = 0)) ∧ Cur b i' := by
  unfold spec_l1Below.f
  by_cases h0 : n ≤ 0
  · rw [if_pos h0]
    exact ⟨_, _, _, rfl, ⟨by omega, by omega, fun _ => rfl⟩, c⟩
  · rw [if_neg h0]
    obtain ⟨x1, i1, h1, e1, b1, c1⟩ := l1Byte_eq b i h c
    by_cases h2 : n ≤ 256
    · rw [if_pos h2, e1]
      simp only [Option.bind_some]
      rw [if_neg (by omega)]
      exact ⟨_, _, _, rfl, ⟨Int.tmod_nonneg _ (by omega), fun _ => Int.tmod_lt_of_pos _ (by omega), fun h => absurd h h0⟩, c1⟩
    · obtain ⟨x2, i2, h2', e2, b2, c2⟩ := l1Byte_eq b i1 h1 c1
      obtain ⟨x3, i3, h3', e3, b3, c3⟩ := l1Byte_eq b i2 h2' c2
      obtain ⟨x4, i4, h4', e4, b4, c4⟩ := l1Byte_eq b i3 h3' c3
      rw [if_neg h2, e1]
      simp only [Option.bind_some, e2, e3, e4]
      rw [if_neg (by omega), wrap_in (n := x1 * 16777216) (by omega) (by omega), wrap_in (n := x2 * 65536) (by omega) (by omega), wrap_in (n := x3 * 256) (by omega) (by omega), wrap_in (n := x1 * 16777216 + x2 * 65536) (by omega) (by omega), wrap_in (n := x1 * 16777216 + x2 * 65536 + x3 * 256) (by omega) (by omega), wrap_in (by omega) (by omega)]
      exact ⟨_, _, _, rfl, ⟨Int.tmod_nonneg _ (by omega), fun _ => Int.tmod_lt_of_pos _ (by omega), fun h => absurd h h0⟩, c4⟩
theorem l1New_ev (b : List Int) (hb : b.length ≤ 1048576) : ∃ h, Ev (fun k => spec_l1New.f k b) (b, 0, h) ∧ Cur b 0 := by
  have key : ∀ d j h, j + d = min b.length 4000 → ∃ h', Ev (fun k => spec_l1New.l0 k b h (j : Int)) (b, 0, h') := by
    intro d
    induction d with
    | zero =>
      intro j h hj
      refine ⟨h, Ev.one fun k => ?_⟩
      simp only [spec_l1New.l0]
      by_cases c : (j : Int) < (b.length : Int)
      · rw [if_pos c, if_neg (by omega)]
      · rw [if_neg c]
    | succ d ih =>
      intro j h hj
      obtain ⟨h', e⟩ := ih (j + 1) _ (by omega)
      exact ⟨h', Ev.step (fun k => by
        simp only [spec_l1New.l0]
        rw [if_pos (by omega), if_pos (by omega), if_pos (by omega), wrapS (n := b.length) (by omega) (by omega)]) e⟩
  obtain ⟨h', e⟩ := key _ 0 _ (Nat.zero_add _)
  exact ⟨h', e, by omega, by omega, by omega⟩
theorem l1Once_eq (b : List Int) (i h n : Int) (c : Cur b i) : ∃ (x : Bool) (i' h' : Int), spec_l1Once.f b i h n = some (x, i', h') ∧ Cur b i' := by
  obtain ⟨x, i', h', e, _, c'⟩ := l1Below_eq b i h n c
  exact ⟨_, _, _, by unfold spec_l1Once.f; rw [e]; rfl, c'⟩
theorem l1PickInt_eq (b : List Int) (i h : Int) (l : List Int) (hl : 0 < l.length) (c : Cur b i) : ∃ x i' h', spec_l1PickInt.f b i h l = some (x, i', h') ∧ x ∈ l ∧ Cur b i' := by
  obtain ⟨x, i', h', e, ⟨h0, h1, _⟩, c'⟩ := l1Below_eq b i h (l.length : Int) c
  have h1' := h1 (by omega)
  refine ⟨_, _, _, by unfold spec_l1PickInt.f; rw [e]; simp only [Option.bind_some]; rw [if_pos h0, if_pos h1'], ?_, c'⟩
  obtain ⟨j, rfl⟩ := Int.eq_ofNat_of_zero_le h0
  rw [rd_get (by omega)]
  exact List.getElem_mem _
theorem l1Max_ev (a b : Int) : ∃ m, spec_l1Max.f a b = some m ∧ a ≤ m ∧ b ≤ m ∧ (m = a ∨ m = b) := by
  unfold spec_l1Max.f
  by_cases h : a > b
  · exact ⟨a, if_pos h, by omega, by omega, Or.inl rfl⟩
  · exact ⟨b, if_neg h, by omega, by omega, Or.inr rfl⟩
theorem l1DrawIns_ev (b : List Int) (i h n m : Int) (c : Cur b i) : ∃ op r x y z i' h', Ev (fun k => spec_l1DrawIns.f k b i h n m) (op, r, x, y, z, i', h') ∧ Cur b i' := by
  obtain ⟨r, i1, h1, e1, _, c1⟩ := l1Below_eq b i h 4 c
  obtain ⟨x, i2, h2, e2, _, c2⟩ := l1Below_eq b i1 h1 4 c1
  obtain ⟨y, i3, h3, e3, _, c3⟩ := l1Below_eq b i2 h2 4 c2
  obtain ⟨mm, em, _⟩ := l1Max_ev m 1
  obtain ⟨z, i4, h4, e4, _, c4⟩ := l1Below_eq b i3 h3 mm c3
  obtain ⟨o, i5, h5, e5, _, c5⟩ := l1Below_eq b i4 h4 16 c4
  have k3 : ∀ q, ∃ op r' x' y' z' i' h', Ev (fun k => spec_l1DrawIns.j3 k n r x z o q b i5 h5) (op, r', x', y', z', i', h') ∧ Cur b i' := by
    intro q
    cases q with
    | true => exact ⟨_, _, _, _, _, _, _, Ev.one fun k => by simp only [spec_l1DrawIns.j3, if_true]; rfl, c5⟩
    | false =>
      by_cases o10 : o = 10
      · exact ⟨_, _, _, _, _, _, _, Ev.one fun k => by simp only [spec_l1DrawIns.j3, Bool.false_eq_true, if_false, if_pos o10]; rfl, c5⟩
      by_cases o11 : o = 11
      · exact ⟨_, _, _, _, _, _, _, Ev.one fun k => by simp only [spec_l1DrawIns.j3, Bool.false_eq_true, if_false, if_neg o10, if_pos o11]; rfl, c5⟩
      by_cases o12 : o = 12
      · obtain ⟨q, i6, h6, e6, c6⟩ := l1Once_eq b i5 h5 3 c5
        cases q with
        | true => exact ⟨_, _, _, _, _, _, _, Ev.one fun k => by simp only [spec_l1DrawIns.j3, Bool.false_eq_true, if_false, if_neg o10, if_neg o11, if_pos o12, e6, Option.bind_some, if_true]; rfl, c6⟩
        | false =>
          obtain ⟨w, i7, h7, e7, _, c7⟩ := l1Below_eq b i6 h6 n c6
          exact ⟨_, _, _, _, _, _, _, Ev.one fun k => by simp only [spec_l1DrawIns.j3, Bool.false_eq_true, if_false, if_neg o10, if_neg o11, if_pos o12, e6, e7, Option.bind_some]; rfl, c7⟩
      by_cases o13 : o = 13
      · obtain ⟨w, i7, h7, e7, _, c7⟩ := l1Below_eq b i5 h5 n c5
        exact ⟨_, _, _, _, _, _, _, Ev.one fun k => by simp only [spec_l1DrawIns.j3, Bool.false_eq_true, if_false, if_neg o10, if_neg o11, if_neg o12, if_pos o13, e7, Option.bind_some]; rfl, c7⟩
      exact ⟨_, _, _, _, _, _, _, Ev.one fun k => by simp only [spec_l1DrawIns.j3, Bool.false_eq_true, if_false, if_neg o10, if_neg o11, if_neg o12, if_neg o13]; rfl, c5⟩
  have k2 : ∀ q, ∃ op r' x' y' z' i' h', Ev (fun k => spec_l1DrawIns.j2 k n r x z o q b i5 h5) (op, r', x', y', z', i', h') ∧ Cur b i' := by
    intro q
    cases q with
    | true => exact ⟨_, _, _, _, _, _, _, Ev.one fun k => by simp only [spec_l1DrawIns.j2, if_true]; rfl, c5⟩
    | false =>
      by_cases o7 : o = 7
      · obtain ⟨_, _, _, _, _, _, _, e, c'⟩ := k3 (o == 7)
        exact ⟨_, _, _, _, _, _, _, Ev.step (fun k => by simp only [spec_l1DrawIns.j2, Bool.false_eq_true, if_false, if_pos o7]) e, c'⟩
      by_cases o8 : o = 8
      · obtain ⟨_, _, _, _, _, _, _, e, c'⟩ := k3 (o == 8)
        exact ⟨_, _, _, _, _, _, _, Ev.step (fun k => by simp only [spec_l1DrawIns.j2, Bool.false_eq_true, if_false, if_neg o7, if_pos o8]) e, c'⟩
      obtain ⟨_, _, _, _, _, _, _, e, c'⟩ := k3 (o == 9)
      exact ⟨_, _, _, _, _, _, _, Ev.step (fun k => by simp only [spec_l1DrawIns.j2, Bool.false_eq_true, if_false, if_neg o7, if_neg o8]) e, c'⟩
  have k1 : ∀ q, ∃ op r' x' y' z' i' h', Ev (fun k => spec_l1DrawIns.j1 k n r x y z o q b i5 h5) (op, r', x', y', z', i', h') ∧ Cur b i' := by
    intro q
    cases q with
    | true =>
      obtain ⟨w, i7, h7, e7, _, c7⟩ := l1Below_eq b i5 h5 3 c5
      exact ⟨_, _, _, _, _, _, _, Ev.one fun k => by simp only [spec_l1DrawIns.j1, if_true, e7, Option.bind_some]; rfl, c7⟩
    | false =>
      by_cases o4 : o = 4
      · obtain ⟨_, _, _, _, _, _, _, e, c'⟩ := k2 (o == 4)
        exact ⟨_, _, _, _, _, _, _, Ev.step (fun k => by simp only [spec_l1DrawIns.j1, Bool.false_eq_true, if_false, if_pos o4]) e, c'⟩
      by_cases o5 : o = 5
      · obtain ⟨_, _, _, _, _, _, _, e, c'⟩ := k2 (o == 5)
        exact ⟨_, _, _, _, _, _, _, Ev.step (fun k => by simp only [spec_l1DrawIns.j1, Bool.false_eq_true, if_false, if_neg o4, if_pos o5]) e, c'⟩
      obtain ⟨_, _, _, _, _, _, _, e, c'⟩ := k2 (o == 6)
      exact ⟨_, _, _, _, _, _, _, Ev.step (fun k => by simp only [spec_l1DrawIns.j1, Bool.false_eq_true, if_false, if_neg o4, if_neg o5]) e, c'⟩
  have k0 : ∀ q, ∃ op r' x' y' z' i' h', Ev (fun k => spec_l1DrawIns.j0 k n r x y z o q b i5 h5) (op, r', x', y', z', i', h') ∧ Cur b i' := by
    intro q
    cases q with
    | true =>
      obtain ⟨w, i7, h7, e7, _, c7⟩ := l1Below_eq b i5 h5 9 c5
      exact ⟨_, _, _, _, _, _, _, Ev.one fun k => by simp only [spec_l1DrawIns.j0, if_true, e7, Option.bind_some]; rfl, c7⟩
    | false =>
      by_cases o2 : o = 2
      · obtain ⟨_, _, _, _, _, _, _, e, c'⟩ := k1 (o == 2)
        exact ⟨_, _, _, _, _, _, _, Ev.step (fun k => by simp only [spec_l1DrawIns.j0, Bool.false_eq_true, if_false, if_pos o2]) e, c'⟩
      obtain ⟨_, _, _, _, _, _, _, e, c'⟩ := k1 (o == 3)
      exact ⟨_, _, _, _, _, _, _, Ev.step (fun k => by simp only [spec_l1DrawIns.j0, Bool.false_eq_true, if_false, if_neg o2]) e, c'⟩
  by_cases o0 : o = 0
  · obtain ⟨_, _, _, _, _, _, _, e, c'⟩ := k0 (o == 0)
    exact ⟨_, _, _, _, _, _, _, Ev.congr (fun k => by simp only [spec_l1DrawIns.f, e1, e2, e3, em, e4, e5, Option.bind_some, if_pos o0]) e, c'⟩
  · obtain ⟨_, _, _, _, _, _, _, e, c'⟩ := k0 (o == 1)
    exact ⟨_, _, _, _, _, _, _, Ev.congr (fun k => by simp only [spec_l1DrawIns.f, e1, e2, e3, em, e4, e5, Option.bind_some, if_neg o0]) e, c'⟩
theorem l1Spoil_eq (b : List Int) (i h op r x y z : Int) (c : Cur b i) : ∃ op' r' x' y' z' i' h', spec_l1Spoil.f b i h op r x y z = some (op', r', x', y', z', i', h') ∧ Cur b i' := by
  obtain ⟨o, i1, h1, e1, _, c1⟩ := l1Below_eq b i h 8 c
  unfold spec_l1Spoil.f
  rw [e1]
  simp only [Option.bind_some]
  by_cases o0 : o = 0
  · obtain ⟨w, i7, h7, e7, _, c7⟩ := l1Below_eq b i1 h1 16 c1
    rw [if_pos o0, e7]; exact ⟨_, _, _, _, _, _, _, rfl, c7⟩
  by_cases o1 : o = 1
  · obtain ⟨w, i7, h7, e7, _, c7⟩ := l1Below_eq b i1 h1 6 c1
    rw [if_neg o0, if_pos o1, e7]; exact ⟨_, _, _, _, _, _, _, rfl, c7⟩
  by_cases o2 : o = 2
  · obtain ⟨w, i7, h7, e7, _, c7⟩ := l1Below_eq b i1 h1 6 c1
    rw [if_neg o0, if_neg o1, if_pos o2, e7]; exact ⟨_, _, _, _, _, _, _, rfl, c7⟩
  by_cases o3 : o = 3
  · obtain ⟨w, i7, h7, e7, _, c7⟩ := l1Below_eq b i1 h1 6 c1
    rw [if_neg o0, if_neg o1, if_neg o2, if_pos o3, e7]; exact ⟨_, _, _, _, _, _, _, rfl, c7⟩
  by_cases o4 : o = 4
  · obtain ⟨w, i7, h7, e7, _, c7⟩ := l1PickInt_eq b i1 h1 [(-1), 0, 3, 23, 24, 1000000000, 1000000001] (by simp) c1
    rw [if_neg o0, if_neg o1, if_neg o2, if_neg o3, if_pos o4, e7]; exact ⟨_, _, _, _, _, _, _, rfl, c7⟩
  rw [if_neg o0, if_neg o1, if_neg o2, if_neg o3, if_neg o4]; exact ⟨_, _, _, _, _, _, _, rfl, c1⟩
theorem l1DrawOne_ev (code : List Int) (hc : code.length ≤ 1048576) : ∃ op r x y z, Ev (fun k => spec_l1DrawOne.f k code) (op, r, x, y, z) := by
  obtain ⟨h, e0, c0⟩ := l1New_ev code hc
  obtain ⟨op, r, x, y, z, i1, h1, e1, c1⟩ := l1DrawIns_ev code 0 h 8 2 c0
  obtain ⟨q, i2, h2, e2, c2⟩ := l1Once_eq code i1 h1 3 c1
  obtain ⟨op', r', x', y', z', i3, h3, e3, c3⟩ := l1Spoil_eq code i2 h2 op r x y z c2
  cases q with
  | true =>
    refine ⟨op', r', x', y', z', ?_⟩
    simp only [spec_l1DrawOne.f]
    refine Ev.bind e0 ?_
    refine Ev.bind e1 ?_
    simp only [e2, e3, Option.bind_some, if_true]
    exact Ev.now _
  | false =>
    refine ⟨op, r, x, y, z, ?_⟩
    simp only [spec_l1DrawOne.f]
    refine Ev.bind e0 ?_
    refine Ev.bind e1 ?_
    simp only [e2, Option.bind_some, Bool.false_eq_true, if_false]
    exact Ev.now _
theorem insText_size (op r a b n : Int) : (insText op r a b n).size ≤ 100 := by
  unfold insText
  by_cases h : insOk op r a b n 24 3 = true
  · rw [if_pos h]
    obtain ⟨⟨h0, h1⟩, _⟩ := ins_in h
    have h2 := wordsOf_size (numsOf op r a b n) (nameOf op) (numsOf_in h)
    have h3 := nameOf_size op h0 h1
    have h4 := numsOf_length op r a b n
    omega
  · rw [if_neg h]
    show (0 : Nat) ≤ 100
    omega
theorem insText_empty (op r a b n : Int) : (insText op r a b n).size = 0 ↔ insOk op r a b n 24 3 = false := by
  unfold insText
  by_cases h : insOk op r a b n 24 3 = true
  · rw [if_pos h, h]
    obtain ⟨⟨h0, h1⟩, _⟩ := ins_in h
    have h2 := words_ge (numsOf op r a b n) (nameOf op)
    have h3 := name_pos op h0 h1
    constructor
    · intro e
      omega
    · intro e
      simp at e
  · rw [if_neg h]
    exact ⟨fun _ => Bool.eq_false_iff.mpr h, fun _ => rfl⟩
theorem endR_self {op r a b n : Int} (h : insOk op r a b n 24 3 = true) : endR (insText op r a b n) op (numsOf op r a b n) = (op, r, a, b, n, true) := by
  have hres : resOf (insText op r a b n) op r a b n = (op, r, a, b, n, true) := by
    unfold resOf
    rw [if_neg (fun e => by rw [(insText_empty op r a b n).mp e] at h; simp at h), if_pos rfl]
  refine Eq.trans ?_ hres
  have h' := h
  unfold insOk at h'
  rw [decide_eq_true_eq] at h'
  obtain ⟨_, _, _, _, h5⟩ := h'
  clear h hres
  rcases h5 with ⟨rfl, _, rfl, rfl⟩ | ⟨h, rfl⟩ | ⟨rfl, _, rfl, rfl⟩ | ⟨h, _, rfl, _⟩ | ⟨rfl, _, rfl⟩ | ⟨rfl, _, rfl, rfl, rfl⟩ | ⟨rfl, rfl, rfl, rfl⟩ | ⟨rfl, _, rfl, rfl, rfl⟩ | ⟨rfl, _, rfl, rfl⟩ | ⟨rfl, rfl, rfl, rfl, rfl⟩
  case inr.inl => rcases h with rfl | rfl | rfl <;> rfl
  case inr.inr.inr.inl => rcases h with rfl | rfl <;> rfl
  all_goals rfl
theorem implR_own {op r a b n : Int} (h : insOk op r a b n 24 3 = true) : implR (insText op r a b n) = (op, r, a, b, n, true) := by
  have he := endR_self h
  have e : insText op r a b n = wordsOf (nameOf op) (numsOf op r a b n) := if_pos h
  rw [e] at he ⊢
  obtain ⟨⟨h0, h1⟩, _⟩ := ins_in h
  have hsm := numsOf_sm h
  obtain ⟨ho1, _⟩ := op_name op h0 h1
  unfold implR
  rw [parts_own h]
  have eh : headOf (nameOf op :: (numsOf op r a b n).map num) = nameOf op := rfl
  rw [eh, ho1, List.drop_succ_cons, List.drop_zero, loopI_nums _ _ _ _ hsm, List.nil_append]
  exact he
theorem implR_shape (s : ByteArray) : implR s = zeroR ∨ ∃ op r a b n, implR s = (op, r, a, b, n, true) ∧ insText op r a b n = s := by
  have hres : ∀ op r a b n, resOf s op r a b n = zeroR ∨ ∃ op' r' a' b' n', resOf s op r a b n = (op', r', a', b', n', true) ∧ insText op' r' a' b' n' = s := by
    intro op r a b n
    unfold resOf
    by_cases h0 : s.size = 0
    · rw [if_pos h0]; exact .inl rfl
    · rw [if_neg h0]
      by_cases h1 : insText op r a b n = s
      · rw [if_pos h1]; exact .inr ⟨_, _, _, _, _, rfl, h1⟩
      · rw [if_neg h1]; exact .inl rfl
  have hput : ∀ op x y z, putR s op x y z = zeroR ∨ ∃ op' r' a' b' n', putR s op x y z = (op', r', a', b', n', true) ∧ insText op' r' a' b' n' = s := by
    intro op x y z
    unfold putR
    repeat' split
    all_goals exact hres ..
  have hI : ∀ op (l : List ByteArray) acc, loopI s op acc l = zeroR ∨ ∃ op' r' a' b' n', loopI s op acc l = (op', r', a', b', n', true) ∧ insText op' r' a' b' n' = s := by
    intro op l
    induction l with
    | nil => intro acc; exact hput ..
    | cons p l ih =>
      intro acc
      rw [loopI]
      cases Lib.atoiAll p.data.toList with
      | ok v => exact ih _
      | «syntax» => exact .inl rfl
      | range => exact .inl rfl
  exact hI ..
theorem rdOf_size (l : List ByteArray) (hl : ∀ x ∈ l, x.size ≤ 2) (i : Int) (h0 : 0 ≤ i) (h1 : i < (l.length : Int)) : (rdOf ByteArray.empty l i).size ≤ 2 := by
  obtain ⟨j, rfl⟩ : ∃ j : Nat, i = (j : Int) := ⟨i.toNat, by omega⟩
  rw [rdS (show j < l.length by omega)]
  exact hl _ (List.getElem_mem _)
theorem l2Dent_eq (b : List Int) (i h : Int) (s : ByteArray) (l : List ByteArray) (hs : s.size ≤ 100) (hl : 0 < l.length) (hl2 : ∀ x ∈ l, x.size ≤ 2) (c : Cur b i) : ∃ t i' h', spec_l2Dent.f b i h s l = some (t, i', h') ∧ t.size ≤ 1048576 := by
  obtain ⟨x1, i1, h1, e1, ⟨p1, q1, _⟩, c1⟩ := l1Below_eq b i h ((s.size : Int) + 1) c
  obtain ⟨x2, i2, h2, e2, _, c2⟩ := l1Below_eq b i1 h1 5 c1
  obtain ⟨x3, i3, h3, e3, ⟨p3, q3, _⟩, c3⟩ := l1Below_eq b i2 h2 (l.length : Int) c2
  have q1' := q1 (by omega)
  have q3' := q3 (by omega)
  have z1 : (s.extract 0 x1.toNat).size ≤ 100 := by rw [ByteArray.size_extract]; omega
  have z2 : (s.extract x1.toNat s.size).size ≤ 100 := by rw [ByteArray.size_extract]; omega
  have z3 := rdOf_size l hl2 x3 p3 q3'
  unfold spec_l2Dent.f
  rw [wrap_in (n := (s.size : Int) + 1) (by omega) (by omega), e1]
  simp only [Option.bind_some, e2]
  by_cases a0 : x2 = 0
  · rw [if_pos a0, if_pos p1, if_pos (by omega)]
    exact ⟨_, _, _, rfl, by omega⟩
  · rw [if_neg a0]
    by_cases a1 : x2 = 1
    · rw [if_pos a1, if_pos p1, if_pos (by omega)]
      unfold spec_l1Pick.f
      rw [e3]
      simp only [Option.bind_some]
      rw [if_pos p3, if_pos q3']
      simp only [Option.bind_some]
      rw [if_pos (by omega), if_pos (by rw [ByteArray.size_append]; omega)]
      exact ⟨_, _, _, rfl, by rw [ByteArray.size_append, ByteArray.size_append]; omega⟩
    · rw [if_neg a1]
      exact ⟨_, _, _, rfl, by omega⟩
theorem drawInsRead_ev (code : List Int) (hc : code.length ≤ 1048576) : ∃ s, Ev (fun k => spec_DrawInsRead.f k code) s ∧ s.size ≤ 1048576 := by
  obtain ⟨h, e0, c0⟩ := l1New_ev code hc
  obtain ⟨op, r, x, y, z, i1, h1, e1, c1⟩ := l1DrawIns_ev code 0 h 8 2 c0
  obtain ⟨t, i2, h2, e2, ht⟩ := l2Dent_eq code i1 h1 (insText op r x y z) (([(⟨#[32]⟩ : ByteArray), (⟨#[48]⟩ : ByteArray), (⟨#[45]⟩ : ByteArray), (⟨#[120]⟩ : ByteArray), (⟨#[57]⟩ : ByteArray), (⟨#[32, 53]⟩ : ByteArray)] : List ByteArray)) (insText_size ..) (by decide) (by decide) c1
  refine ⟨t, ?_, ht⟩
  simp only [spec_DrawInsRead.f]
  refine Ev.bind e0 ?_
  refine Ev.bind e1 ?_
  refine Ev.bind (spec_InsText_ev ..) ?_
  simp only [e2, Option.bind_some]
  exact Ev.now _
theorem FnInsText (x0 : (List Int)) (ok0 : (x0.length ≤ maxLen ∧ ∀ z ∈ x0, ((Lit.int .u8 z).wf = true))) : ∃ k, laws_FnInsText.f k x0 = some true := by
  have hl := ok0.1
  unfold maxLen at hl
  refine Ev.rounds (g := fun k => laws_FnInsText.f k x0) ?_
  simp only [laws_FnInsText.f, laws_big.f, Option.bind_some, decide_eq_true_eq]
  by_cases hb : (x0.length : Int) > 1048576
  · exact Ev.ite_pos hb (Ev.now _)
  refine Ev.ite_neg hb ?_
  obtain ⟨op, r, a, b, n, e⟩ := l1DrawOne_ev x0 (by omega)
  have er : Ev (fun k => spec_DrawInsText.f k x0) (op, r, a, b, n) := by
    simp only [spec_DrawInsText.f]; exact Ev.bind e (Ev.now _)
  have j1 : Ev (fun k => laws_FnInsText.j1 k x0) true := by
    obtain ⟨s, es, hs⟩ := drawInsRead_ev x0 (by omega)
    refine Ev.step (fun k => by rw [laws_FnInsText.j1]) ?_
    refine Ev.bind es ?_
    refine Ev.bind (impl_InsRead_ev s hs) ?_
    refine Ev.bind (spec_InsRead_ev s hs) ?_
    rw [← read_same s]
    simp only [beq_self_eq_true, if_true]
    rcases implR_shape s with h | ⟨op', r', a', b', n', h, ht⟩
    · rw [h]
      exact Ev.now _
    · rw [h]
      simp only [if_true]
      refine Ev.bind (impl_InsText_ev ..) ?_
      rw [ht, beq_self_eq_true]
      exact Ev.now _
  refine Ev.bind er ?_
  try dsimp only
  refine Ev.bind (impl_InsText_ev ..) ?_
  refine Ev.bind (spec_InsText_ev ..) ?_
  refine Ev.ite_pos rfl ?_
  refine Ev.bind (impl_InsOk_ev _ _ _ _ _ _ _ (by omega) (by omega)) ?_
  by_cases h : insOk op r a b n 24 3 = true
  · have hz : ¬ (insText op r a b n).toList = ([] : List UInt8) := fun e => by
      have := (insText_empty op r a b n).mp (nil_iff.mp e)
      rw [this] at h
      simp at h
    have hf : (((insText op r a b n).toList != ([] : List UInt8)) != insOk op r a b n 24 3) = false := by
      rw [h, bne_iff_ne.mpr hz]
      rfl
    rw [hf]
    refine Ev.step (fun k => by rw [laws_FnInsText.j0, if_neg (by simp), if_neg hz]) ?_
    refine Ev.bind (impl_InsRead_ev _ (by have := insText_size op r a b n; omega)) ?_
    rw [implR_own h]
    simp only [if_true, beq_self_eq_true, Bool.not_true, Bool.or_self, Bool.false_eq_true, if_false]
    exact j1
  · have hz : (insText op r a b n).toList = ([] : List UInt8) := nil_iff.mpr ((insText_empty op r a b n).mpr (Bool.eq_false_iff.mpr h))
    have hf : (((insText op r a b n).toList != ([] : List UInt8)) != insOk op r a b n 24 3) = false := by
      rw [Bool.eq_false_iff.mpr h, hz]
      rfl
    rw [hf]
    exact Ev.step (fun k => by rw [laws_FnInsText.j0, if_neg (by simp), if_pos hz]) j1
end Go.Proofs.YtkjfcmgpplapeaaDoor.Pure
namespace Go.Proofs.YtkjfcmgpplapeaaDoor.Rd
open Go.RowKit Go.Proofs.YtkjfcmgpplapeaaDoorW.PrintWords Go.ChangeShapes Go.WideShapes
set_option linter.unusedVariables false
def Opens {α : Type} (P : Program) (t : TypeId) (d : Kd α) (ok : α → Prop) : Prop :=
  ∀ (H : Type) (enc : TypeId × Value → H) (w : World) (base : Nat) (spare : Nat → Bool) (held : Bool) (fuel : Nat) (cs : List Value) (x : DataW H × List MemPlace),
    DataW.trod enc P w base spare held fuel t cs = some x → ∃ y, d.K w y cs ∧ ok y
theorem Opens.int {P : Program} {t : TypeId} {k : IntKind} (ht : P.underlying t = some (.int k)) : Opens P t (Kd.int k) (fun n => (Lit.int k n).wf = true) := by
  intro H enc w base spare held fuel cs x h
  obtain ⟨n, rfl, _, hw⟩ := DataW.trod_int ht h
  exact ⟨n, rfl, hw⟩
theorem Opens.bool {P : Program} {t : TypeId} (ht : P.underlying t = some .bool) : Opens P t Kd.bool (fun _ => True) := by
  intro H enc w base spare held fuel cs x h
  obtain ⟨n, rfl, _⟩ := DataW.trod_bool ht h
  exact ⟨n, rfl, trivial⟩
theorem Opens.string {P : Program} {t : TypeId} (ht : P.underlying t = some .string) : Opens P t Kd.string (fun s => s.size ≤ maxLen) := by
  intro H enc w base spare held fuel cs x h
  obtain ⟨n, rfl, _, hs⟩ := DataW.trod_string ht h
  exact ⟨n, rfl, hs⟩
theorem list_of {α : Type} {Q : Nat → α → Prop} : ∀ n : Nat, (∀ i, i < n → ∃ y, Q i y) → ∃ ys : List α, ys.length = n ∧ ∀ i y, ys[i]? = some y → Q i y := by
  intro n
  induction n with
  | zero => exact fun _ => ⟨[], rfl, fun i y h => by simp at h⟩
  | succ n ih =>
    intro h
    obtain ⟨ys, hl, hq⟩ := ih (fun i hi => h i (by omega))
    obtain ⟨y, hy⟩ := h n (by omega)
    refine ⟨ys ++ [y], by simp [hl], fun i z hz => ?_⟩
    rcases Nat.lt_or_ge i ys.length with hi | hi
    · rw [List.getElem?_append_left hi] at hz
      exact hq i z hz
    · rw [List.getElem?_append_right hi] at hz
      have h0 : i - ys.length = 0 := by
        have := (List.getElem?_eq_some_iff.1 hz).1
        simp at this
        omega
      rw [h0] at hz
      simp at hz
      subst hz
      have : i = n := by omega
      rw [this]
      exact hy
theorem Opens.slice {α : Type} {P : Program} {t e : TypeId} (q : Nat) {d : Kd α} {ok : α → Prop} (ht : P.underlying t = some (.slice e)) (hs : P.cellsOf e = d.sz) (he : Opens P e d ok) :
    Opens P t (Kd.slice q d) (fun xs => xs.length ≤ maxLen ∧ ∀ x ∈ xs, ok x) := by
  intro H enc w base spare held fuel cs x h
  rcases DataW.trod_slice ht h with ⟨rfl, _⟩ | ⟨a, len, cap, elems, rest, n, _, rfl, _, _, hl, hm, hlen, hel, _, _⟩
  · exact ⟨[], ⟨none, 0, rfl, Nat.le_refl _, rfl, by simp, fun hp => absurd hp (by simp)⟩, by simp, by simp⟩
  · have each : ∀ i, i < len → ∃ y, ∃ c, w.cells? base (a.add (i * d.sz)) d.sz = some c ∧ d.K w y c ∧ ok y := by
      intro i hi
      have h1 := hel i hi
      rw [List.getElem?_eq_getElem (by omega), Option.bind_eq_some_iff, hs] at h1
      obtain ⟨c, hc, hx⟩ := h1
      obtain ⟨y, hy, ho⟩ := he H enc w base spare held n c _ hx
      exact ⟨y, c, hc, hy, ho⟩
    obtain ⟨ys, hyl, hq⟩ := list_of len each
    have hm' : len ≤ 9223372036854775807 := by unfold maxLen at hm; omega
    refine ⟨ys, ⟨some a, cap, by rw [hyl], by omega, rfl, by omega, fun _ => ⟨a, rfl, fun j p hj => ?_⟩⟩, by omega, fun y hy => ?_⟩
    · obtain ⟨c, hc, hk, _⟩ := hq j p hj
      obtain ⟨_, hcl, hcell⟩ := World.cells?_some hc
      refine ⟨c, hcl, hk, fun i u hu => ?_⟩
      have hi : i < d.sz := by
        have := (List.getElem?_eq_some_iff.1 hu).1
        omega
      rw [← Addr.add_add, hcell i hi, hu]
    · obtain ⟨i, hi⟩ := List.getElem?_of_mem hy
      obtain ⟨c, _, _, ho⟩ := hq i y hi
      exact ho
def OpensAt {α : Type} (P : Program) (fs : List Field) (off : Nat) (d : Kd α) (ok : α → Prop) : Prop :=
  ∀ (H : Type) (enc : TypeId × Value → H) (w : World) (base : Nat) (spare : Nat → Bool) (held : Bool) (n : Nat) (cs : List Value), cs.length = off + d.sz →
    (∀ f ∈ fs, ∃ y, DataW.trod enc P w base spare held n f.type ((cs.drop f.offset).take (P.cellsOf f.type)) = some y) → ∃ y, d.K w y (cs.drop off) ∧ ok y
theorem OpensAt.one {α : Type} {P : Program} {f : Field} {off : Nat} {d : Kd α} {ok : α → Prop} (ho : f.offset = off) (hs : P.cellsOf f.type = d.sz) (h : Opens P f.type d ok) : OpensAt P [f] off d ok := by
  intro H enc w base spare held n cs hl hf
  obtain ⟨x, hx⟩ := hf f (by simp)
  rw [ho, hs, List.take_of_length_le (by simp; omega)] at hx
  exact h _ _ _ _ _ _ _ _ _ hx
theorem OpensAt.cons {α β : Type} {P : Program} {f : Field} {fs : List Field} {off : Nat} {a : Kd α} {b : Kd β} {oka : α → Prop} {okb : β → Prop} (ho : f.offset = off) (hs : P.cellsOf f.type = a.sz) (h : Opens P f.type a oka)
    (hr : OpensAt P fs (off + a.sz) b okb) : OpensAt P (f :: fs) off (Kd.pair a b) (fun x => oka x.1 ∧ okb x.2) := by
  intro H enc w base spare held n cs hl hf
  obtain ⟨x, hx⟩ := hf f (by simp)
  rw [ho, hs] at hx
  obtain ⟨y, hy, oy⟩ := h _ _ _ _ _ _ _ _ _ hx
  have hl' : cs.length = (off + a.sz) + b.sz := by rw [hl]; show off + (a.sz + b.sz) = _; omega
  obtain ⟨z, hz, oz⟩ := hr H enc w base spare held n cs hl' (fun g hg => hf g (by simp [hg]))
  refine ⟨(y, z), ⟨_, _, ?_, hy, hz⟩, oy, oz⟩
  rw [← List.drop_drop]
  exact (List.take_append_drop _ _).symm
theorem Opens.struct {α : Type} {P : Program} {t : TypeId} {fs : List Field} {d : Kd α} {ok : α → Prop} (ht : P.underlying t = some (.struct (List.toArray fs))) (hs : P.cellsOf t = d.sz) (h : OpensAt P fs 0 d ok) : Opens P t d ok := by
  intro H enc w base spare held fuel cs x hx
  obtain ⟨xs, n, _, _, hl, hlen, hf⟩ := DataW.trod_struct ht hx
  obtain ⟨y, hy, oy⟩ := h H enc w base spare held n cs (by omega) (fun f hm => by
    obtain ⟨i, hi⟩ := List.getElem?_of_mem hm
    have hi' : (List.toArray fs)[i]? = some f := by simpa using hi
    have h1 := hf i f hi'
    have hlt : i < xs.length := by
      have := (Array.getElem?_eq_some_iff.1 hi').1
      omega
    rw [List.getElem?_eq_getElem hlt] at h1
    exact ⟨_, h1⟩)
  exact ⟨y, by simpa using hy, oy⟩
theorem Opens.at_slice {α : Type} {P : Program} {t : TypeId} {q : Nat} {d : Kd α} {ok : List α → Prop} (h : Opens P t (Kd.slice q d) ok) {H : Type} {enc : TypeId × Value → H} {w : World} {base : Nat} {spare : Nat → Bool} {held : Bool} {v : Value} {x : DataW H} {ps : List MemPlace}
    {e : TypeId} {r : Reach} {b0 : Nat} (hu : P.underlying t = some (.slice e)) (hv : Value.okWide P w r b0 t v) (hx : DataW.Trod enc P w base spare held t v x ps) : ∃ xs A c, v = .slice A xs.length c ∧ xs.length ≤ c ∧ d.C w A xs.length xs ∧ ok xs := by
  obtain ⟨a, len, cap, rfl⟩ := okWide_slice hu hv
  obtain ⟨fuel, hf⟩ := hx
  obtain ⟨xs, ⟨A, c, hcs, hl, hC⟩, o⟩ := h _ _ _ _ _ _ _ _ _ hf
  refine ⟨xs, A, c, ?_, hl, hC, o⟩
  simpa [Value.cells] using hcs
end Go.Proofs.YtkjfcmgpplapeaaDoor.Rd
namespace Go.Proofs.YtkjfcmgpplapeaaDoor.TabT
open Go.RowKit Go.ChangeShapes
theorem tab_data : (Rows.laid_internal_strconv_uint64pow10 : DataW Unit) = Lib.tabData .u64 Lib.pow10Tab := by kernel_rfl
theorem star : "*" ++ "errors.errorString" = "*errors.errorString" := by decide
theorem row192 (u : TypeId) (h : Tryd.prog.typeName? 3 u = some "*errors.errorString") : u = 192 :=
  typeName_ptr_named (nm := "errors.errorString") (by rw [star]; kernel_rfl) (by kernel_rfl) (by decide) u (by rw [star]; exact h)
set_option maxRecDepth 100000 in
theorem of_laid {W : World} (h : laidMetH Tryd.prog Rows.fnExactInsReadRow.laid W) (hs : W.ShapedOpen Tryd.prog) : Laid W := by
  rw [MakeChecks.laidMetH_plain _ _ _ (by kernel_rfl)] at h
  have h' := h
  obtain ⟨ps, ⟨g0, t0, cs0, f0, p0, q0, hg0, ht0, hv0, hd0, ⟨g1, t1, cs1, f1, p1, q1, hg1, ht1, hv1, hd1, ⟨g2, t2, cs2, f2, p2, q2, hg2, ht2, hv2, hd2, _, _⟩, _⟩, _⟩, _, _⟩ := h
  rw [tab_data] at hd2
  obtain rfl := Option.some.inj ((show Tryd.prog.globalNamed "internal/strconv.uint64pow10" = some 3 by kernel_rfl).symm.trans hg2)
  obtain rfl := Option.some.inj ((show (Tryd.prog.globals[3]?).map (·.type) = some 196 by kernel_rfl).symm.trans ht2)
  have gR : Tryd.prog.globalNamed "strconv.ErrRange" = some 1 := by kernel_rfl
  have gS : Tryd.prog.globalNamed "strconv.ErrSyntax" = some 0 := by kernel_rfl
  obtain ⟨a1, s1, hr1, _⟩ := laid_sentinel (ti := 121) (tp := 192) (te := 194) (ts := 9) h'.tail.tail.tail.tail gR (by kernel_rfl) Tryd.underlying121 row192 Tryd.underlying192 Tryd.underlying194 rfl rfl Tryd.underlying9 (by kernel_rfl) (by kernel_rfl)
  obtain ⟨a2, s2, hr2, _⟩ := laid_sentinel (ti := 121) (tp := 192) (te := 194) (ts := 9) h'.tail.tail.tail.tail.tail gS (by kernel_rfl) Tryd.underlying121 row192 Tryd.underlying192 Tryd.underlying194 rfl rfl Tryd.underlying9 (by kernel_rfl) (by kernel_rfl)
  refine ⟨?_, cell_of_shapedOpen_int (t := 3) (zero := #[.int .i64 0]) hs (of_decide_eq_true (by kernel_rfl)) (by kernel_rfl) rfl (by kernel_rfl) (by kernel_rfl) Tryd.underlying3, ⟨_, by simpa using World.var?_cell gS hr2 0, .inr ⟨_, _, rfl⟩⟩, ⟨_, by simpa using World.var?_cell gR hr1 0, .inr ⟨_, _, rfl⟩⟩⟩
  unfold Tab.Laid Lib.TabIs
  rw [hv2, ← Lib.cells_of_tab (n := 20) Tryd.underlying196 Tryd.underlying178 (by kernel_rfl) (by kernel_rfl) hd2]
theorem of_change_and_shaped {H : Type} {enc : TypeId × Value → H} {a : Assume} {C : Checked} {os : Os} {f : FuncId} {fn : Func} {s : ChangeSpec} {conds : List PathCond} {apart fresh handsOn again : Bool} {X : World → Array Value → Prop}
    (hX : ∀ (w w' : World) (args : Array Value), w.heap = w'.heap → X w args → X w' args)
    (own : ownKnob C.prog.godebug = none) (started : os.Started) (noInit : C.prog.inits.idxOf? f = none) (hfn : C.prog.funcs[f]? = some fn)
    (witness : ∃ (w : World) (tape : Tape) (i : Input), w.os = os ∧ (w.forCall tape i).Shaped C.prog ∧ i.vars = [] ∧ Input.okWide C.prog (w.forCall tape i) .any w.heap.size f i ∧
      ((s.pre enc C.prog fn conds apart (w.forCall tape i).memory i.args ∧ X (w.forCall tape i).memory i.args) ∧ sizedMet enc C.prog fn (OpenSpec.ofChange s) apart (w.forCall tape i).memory i.args) ∧ a.holds C.prog (lone (Frame.enter C.prog f i.args .normal) [] (w.forCall tape i)))
    (contract : ∀ (W : World) (base : Nat) (args : Array Value) (ds gs : List (DataW H)) (before : List MemPlace),
      (∀ (j : Nat) t v, fn.params[j]? = some t → args[j]? = some v → Value.okWide C.prog W .any base t v) →
      DataW.Whole enc C.prog fn.params.toList s.vars apart W args.toList ds gs before →
      conds.all (PathCond.test C.prog ⟨fn.params.toList, ds, s.plain.varTypes C.prog, gs⟩) = true →
      (DataW.weightsEach C.prog (fn.params.toList ++ s.plain.varTypes C.prog) (ds ++ gs)).all (· ≤ reachBytes) = true → X W args → W.ShapedOpen C.prog →
      Calls C.prog f args W fun e W' => ∃ v, e = .returned v ∧ s.post enc C.prog fn apart fresh handsOn again W args v W') :
    ReturnsInHanded a C os f .any (fun w args => (s.pre enc C.prog fn conds apart w args ∧ X w args) ∧ sizedMet enc C.prog fn (OpenSpec.ofChange s) apart w args) (s.post enc C.prog fn apart fresh handsOn again) := by
  refine returnsInHanded_of_calls own started noInit witness ?_
  intro w tape i _ hsh _ hok hpre hholds
  obtain ⟨_, _, _, fn', hfn', _, _, _, _, hval⟩ := hok
  have e : fn' = fn := Option.some.inj (hfn'.symm.trans hfn)
  subst e
  obtain ⟨⟨⟨ds, gs, before, hw, hc⟩, hx⟩, hz⟩ := hpre
  have hw' := DataW.Whole.of_heap (w' := w.forCall tape i) (by rfl) hw
  refine (contract (w.forCall tape i) w.heap.size i.args ds gs before hval hw' hc (hz.weights hw) (hX _ _ _ (by rfl) hx) hsh).mono fun e W' ⟨v, he, hp⟩ => ?_
  subst he
  exact ChangeSpec.post_blind hp
end Go.Proofs.YtkjfcmgpplapeaaDoor.TabT
