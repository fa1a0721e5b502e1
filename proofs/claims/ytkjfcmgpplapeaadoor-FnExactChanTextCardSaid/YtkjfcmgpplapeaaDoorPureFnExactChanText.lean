/- The program's ChanText answers what the reference's does and leaves its arguments as they were: the printed law's function is true for all channels. -/
import Derived.Test.YtkjfcmgpplapeaaDoorPFnExactChanTextx3
import Derived.Test.YtkjfcmgpplapeaaDoorLp
namespace Go.Proofs.YtkjfcmgpplapeaaDoor.Pure
open Go.RowKit Go.Proofs.YtkjfcmgpplapeaaDoor.PFnExactChanText Go.Proofs.YtkjfcmgpplapeaaDoorW.PrintWords Go.Proofs.YtkjfcmgpplapeaaDoorW.PrintLast Go.Proofs.YtkjfcmgpplapeaaDoor.Lp
set_option linter.unusedVariables false
set_option linter.unusedSimpArgs false

theorem toIntS_ev (l : List Int) (h : l.length ≤ 35184372088832) : Ev (fun k => laws_toIntS.f k l) l := by
  have key := count_up (L := fun j k => laws_toIntS.l0 k l (l.take j ++ List.replicate (l.length - j) 0) (j : Int)) (R := fun _ => l) (n := l.length)
    (Ev.one fun k => by simp [laws_toIntS.l0])
    (fun j hj ih => Ev.step (fun k => by
      simp only [laws_toIntS.l0]
      rw [if_pos (by omega), if_pos (by omega), if_pos (by simp; omega), wrapS hj (by omega), Int.toNat_natCast, fill_set l 0 j hj _ (rd_get hj)]) ih)
  refine Ev.congr (fun k => ?_) (key 0 (Nat.zero_le _))
  unfold laws_toIntS.f
  rw [if_pos (by omega), if_pos (by simpa using h)]
  simp

theorem eqIntS_ev (a b : List Int) (h : a.length ≤ 9223372036854775807) : Ev (fun k => laws_eqIntS.f k a b) (decide (a = b)) := by
  by_cases hl : a.length = b.length
  · have key := count_up (L := fun j k => laws_eqIntS.l0 k a b (j : Int)) (R := fun j => agree a b j) (n := a.length)
      (Ev.one fun k => by simp [laws_eqIntS.l0, agree_end hl])
      (fun j hj ih => by
        by_cases e : a[j] = b[j]
        · exact Ev.step (fun k => by
            simp only [laws_eqIntS.l0]
            rw [if_pos (by omega), if_pos (by omega), if_pos (by omega), if_pos (by rw [rd_get hj, rd_get (by omega), e]), wrapS hj (by omega)]) (by rw [agree_step hj (by omega) e]; exact ih)
        · exact Ev.one fun k => by
            simp only [laws_eqIntS.l0]
            rw [if_pos (by omega), if_pos (by omega), if_pos (by omega), if_neg (by rw [rd_get hj, rd_get (by omega)]; exact e), agree_no hj (by omega) e])
    refine Ev.congr (fun k => ?_) (key 0 (Nat.zero_le _))
    unfold laws_eqIntS.f
    rw [if_pos (by omega)]
    rfl
  · refine Ev.all fun k => ?_
    unfold laws_eqIntS.f
    rw [if_neg (by omega), decide_eq_false (fun e => hl (by rw [e]))]
theorem eqIntS_self (a : List Int) (h : a.length ≤ 9223372036854775807) : Ev (fun k => laws_eqIntS.f k a a) true := by
  have := eqIntS_ev a a h
  simpa using this

theorem szIntS_yes {l : List Int} {a : Int} (ha : a ≤ 9223372036854775807) (h : (l.length : Int) ≤ a) : laws_szIntS.f l a = some (a - (l.length : Int)) := by
  unfold laws_szIntS.f
  rw [wrap_in (by omega) (by omega), if_neg (by omega)]
theorem szIntS_no {l : List Int} {a : Int} (h0 : 0 ≤ a) (hl : l.length ≤ 9223372036854775807) (h : a < (l.length : Int)) : laws_szIntS.f l a = some (-1) := by
  unfold laws_szIntS.f
  rw [wrap_in (by omega) (by omega), if_pos (by omega)]

theorem szChan_yes {c : Int} {l : List Int} {cl : Bool} {a : Int} (ha : a ≤ 9223372036854775807) (h : (l.length : Int) ≤ a) : laws_szChan.f c l cl a = some (a - (l.length : Int)) := by
  unfold laws_szChan.f
  rw [szIntS_yes ha h, Option.bind_some, if_neg (by omega)]
theorem szChan_no {c : Int} {l : List Int} {cl : Bool} {a : Int} (h0 : 0 ≤ a) (hl : l.length ≤ 9223372036854775807) (h : a < (l.length : Int)) : laws_szChan.f c l cl a = some (-1) := by
  unfold laws_szChan.f
  rw [szIntS_no h0 hl h, Option.bind_some, if_pos (by omega)]

theorem toChan_ev (c : Int) (l : List Int) (cl : Bool) (h : l.length ≤ 35184372088832) : Ev (fun k => laws_toChan.f k c l cl) (c, l, cl) := by
  simp only [laws_toChan.f]
  exact Ev.bind (toIntS_ev l h) (Ev.now _)

theorem eqChan_self (c : Int) (l : List Int) (cl : Bool) (h : l.length ≤ 9223372036854775807) : Ev (fun k => laws_eqChan.f k c l cl c l cl) true := by
  simp only [laws_eqChan.f, if_true]
  refine Ev.bind (eqIntS_self l h) ?_
  simp only [if_true, bne_self_eq_false, Bool.false_eq_true, if_false]
  exact Ev.now _

/-- lo .. hi. -/
def inn (a lo hi : Int) : Bool := decide (lo ≤ a ∧ a ≤ hi)

theorem spec_l1In_eq (a lo hi : Int) : spec_l1In.f a lo hi = some (inn a lo hi) := by
  unfold spec_l1In.f inn
  by_cases h : a ≥ lo
  · rw [if_pos h]; congr 1; simp; omega
  · rw [if_neg h, decide_eq_false (by omega)]

theorem impl_within_eq (a lo hi : Int) : impl_within.f a lo hi = some (inn a lo hi) := by
  unfold impl_within.f inn
  by_cases h : a ≥ lo
  · rw [if_pos h]; congr 1; simp; omega
  · rw [if_neg h, decide_eq_false (by omega)]

/-- A right channel. -/
def chanOk (c : Int) (l : List Int) : Bool := inn c 1 4 && decide ((l.length : Int) ≤ c)
/-- What ChanSend, ChanTake, ChanClose answer. -/
def sendOf (c : Int) (l : List Int) (cl : Bool) (v : Int) : Int × List Int × Bool × Int := if (cl || !chanOk c l) = true then (c, l, cl, 2) else if (l.length : Int) = c then (c, l, cl, 1) else (c, l ++ [v], cl, 0)
def takeOf (c : Int) (l : List Int) (cl : Bool) : Int × List Int × Bool × Int × Int := if chanOk c l = true then (if (l.length : Int) > 0 then (c, l.drop 1, cl, l.getD 0 0, 0) else if cl = true then (c, l, cl, 0, 3) else (c, l, cl, 0, 1)) else (c, l, cl, 0, 2)
def closeOf (c : Int) (l : List Int) (cl : Bool) : Int × List Int × Bool × Int := if (cl || !chanOk c l) = true then (c, l, cl, 2) else (c, l, true, 0)
theorem sendOf_length (c : Int) (l : List Int) (cl : Bool) (v : Int) : (sendOf c l cl v).2.1.length ≤ l.length + 1 := by
  unfold sendOf
  repeat' split
  all_goals simp
theorem takeOf_length (c : Int) (l : List Int) (cl : Bool) : (takeOf c l cl).2.1.length ≤ l.length := by
  unfold takeOf
  repeat' split
  all_goals simp
theorem closeOf_length (c : Int) (l : List Int) (cl : Bool) : (closeOf c l cl).2.1.length ≤ l.length := by
  unfold closeOf
  repeat' split
  all_goals simp

theorem spec_ChanOk_eq (c : Int) (l : List Int) (cl : Bool) : spec_ChanOk.f c l cl = some (chanOk c l) := by
  unfold spec_ChanOk.f chanOk
  rw [spec_l1In_eq, Option.bind_some]
  cases inn c 1 4 <;> simp

theorem impl_ChanOk_eq (c : Int) (l : List Int) (cl : Bool) : impl_ChanOk.f c l cl = some (chanOk c l) := by
  unfold impl_ChanOk.f chanOk
  rw [impl_within_eq, Option.bind_some]
  cases inn c 1 4 <;> simp

/-- A number in decimal digits. -/
def num (n : Int) : ByteArray := ⟨(Lib.itoa n).toArray⟩
/-- A number of 64 bits. -/
def In64 (n : Int) : Prop := -9223372036854775808 ≤ n ∧ n ≤ 9223372036854775807
theorem num_size {n : Int} (h : In64 n) : (num n).size ≤ 21 := by
  show (Lib.itoa n).toArray.size ≤ 21
  rw [List.size_toArray]
  exact Lib.itoa_length_le n h.1 h.2
theorem impl_digits_eq {n : Int} (h : In64 n) : impl_digits.f n = some (num n) := if_pos h
theorem ba_append (a b : List UInt8) : (⟨a.toArray⟩ : ByteArray) ++ ⟨b.toArray⟩ = ⟨(a ++ b).toArray⟩ := by
  apply ByteArray.ext
  rw [ByteArray.data_append]
  simp
/-- The digits of a number; none of nought. -/
def dd (u : Nat) : List UInt8 := if u = 0 then [] else Lib.decDigits u
theorem dd_step {u : Nat} (h : u ≠ 0) : dd u = dd (u / 10) ++ [UInt8.ofNat (48 + u % 10)] := by
  unfold dd
  rw [if_neg h]
  by_cases c : u < 10
  · rw [if_pos (by omega), Lib.decDigits, dif_pos c, Nat.mod_eq_of_lt c]
    rfl
  · rw [if_neg (by omega), Lib.decDigits, dif_neg c]
theorem dd_length : ∀ {k u : Nat}, u < 10 ^ k → (dd u).length ≤ k
  | 0, u, h => by
    obtain rfl : u = 0 := by simpa using h
    simp [dd]
  | k + 1, u, h => by
    by_cases c : u = 0
    · subst c; simp [dd]
    · rw [dd_step c, List.length_append, List.length_singleton]
      have := dd_length (k := k) (u := u / 10) (by rw [Nat.pow_succ] at h; omega)
      omega
theorem one_char (d : Nat) (h : d < 10) : strOfNums [(48 + (d : Int)) % 256] = ⟨[UInt8.ofNat (48 + d)].toArray⟩ := by
  unfold strOfNums
  rw [List.map_cons, List.map_nil, show ((48 + (d : Int)) % 256).toNat = 48 + d by omega]
theorem digits_loop : ∀ (u : Nat) (x : Int) (neg : Bool) (s : ByteArray), x.natAbs = u → In64 x → s.size + (dd u).length ≤ 100 → Ev (fun k => spec_l2Digits.l0 k x neg s) ((if neg = true then (⟨#[45]⟩ : ByteArray) else ByteArray.empty) ++ (⟨(dd u).toArray⟩ ++ s)) := by
  intro u
  induction u using Nat.strongRecOn with
  | ind u ih =>
    intro x neg s hx hr hs
    by_cases h0 : x = 0
    · subst h0
      obtain rfl : u = 0 := by simpa using hx.symm
      have e0 : (⟨(dd 0).toArray⟩ : ByteArray) ++ s = s := ByteArray.empty_append
      rw [e0]
      refine Ev.step (fun k => by rw [spec_l2Digits.l0]) ?_
      refine Ev.ite_pos rfl ?_
      cases neg with
      | true => exact Ev.ite_pos rfl (Ev.ite_pos (by omega) (Ev.now _))
      | false =>
        refine Ev.ite_neg (by simp) ?_
        rw [if_neg (by simp), ByteArray.empty_append]
        exact Ev.now _
    · have hu : u ≠ 0 := by omega
      have hd : (dd u).length = (dd (u / 10)).length + 1 := by rw [dd_step hu]; simp
      have hsz : (strOfNums [(48 + ((u % 10 : Nat) : Int)) % 256]).size = 1 := by rw [one_char _ (by omega)]; rfl
      have next : ∀ y : Int, y.natAbs = u / 10 → In64 y → Ev (fun k => spec_l2Digits.l0 k y neg (strOfNums [(48 + ((u % 10 : Nat) : Int)) % 256] ++ s)) ((if neg = true then (⟨#[45]⟩ : ByteArray) else ByteArray.empty) ++ (⟨(dd u).toArray⟩ ++ s)) := by
        intro y hy hry
        refine Ev.val ?_ (ih (u / 10) (by omega) y neg _ hy hry (by rw [ByteArray.size_append, hsz]; omega))
        rw [one_char _ (by omega), dd_step hu, ← ba_append, ByteArray.append_assoc]
      refine Ev.step (fun k => by rw [spec_l2Digits.l0]) ?_
      refine Ev.ite_neg h0 ?_
      simp only [Option.bind_some]
      unfold In64 at hr
      rcases Int.le_total 0 x with hp | hp
      · obtain rfl : x = (u : Int) := by omega
        have em : Int.tmod (u : Int) 10 = ((u % 10 : Nat) : Int) := by rw [Int.tmod_eq_emod_of_nonneg (by omega)]; omega
        have ed : Int.tdiv (u : Int) 10 = ((u / 10 : Nat) : Int) := by rw [Int.tdiv_eq_ediv_of_nonneg (by omega)]; omega
        rw [em, ed]
        refine Ev.ite_neg (by omega) ?_
        rw [wrap_in (n := 48 + ((u % 10 : Nat) : Int)) (by omega) (by omega), wrap_in (n := ((u / 10 : Nat) : Int)) (by omega) (by omega)]
        refine Ev.ite_pos (by rw [hsz]; omega) ?_
        exact next _ (by omega) ⟨by omega, by omega⟩
      · obtain ⟨v, hv⟩ : ∃ v : Nat, v = u := ⟨u, rfl⟩
        obtain rfl : x = -(u : Int) := by omega
        have em : Int.tmod (-(u : Int)) 10 = -((u % 10 : Nat) : Int) := by rw [Int.neg_tmod, Int.tmod_eq_emod_of_nonneg (by omega)]; omega
        have ed : Int.tdiv (-(u : Int)) 10 = -((u / 10 : Nat) : Int) := by rw [Int.neg_tdiv, Int.tdiv_eq_ediv_of_nonneg (by omega)]; omega
        rw [em, ed, Int.neg_neg]
        have e3 : wrap64 (-((u / 10 : Nat) : Int)) = -((u / 10 : Nat) : Int) := wrap_in (by omega) (by omega)
        by_cases hz : -((u % 10 : Nat) : Int) < 0
        · refine Ev.ite_pos hz ?_
          rw [wrap_in (n := ((u % 10 : Nat) : Int)) (by omega) (by omega), wrap_in (n := 48 + ((u % 10 : Nat) : Int)) (by omega) (by omega), e3]
          refine Ev.ite_pos (by rw [hsz]; omega) ?_
          exact next _ (by omega) ⟨by omega, by omega⟩
        · refine Ev.ite_neg hz ?_
          have e0 : ((u % 10 : Nat) : Int) = 0 := by omega
          rw [show -((u % 10 : Nat) : Int) = ((u % 10 : Nat) : Int) by omega, wrap_in (n := 48 + ((u % 10 : Nat) : Int)) (by omega) (by omega), e3]
          refine Ev.ite_pos (by rw [hsz]; omega) ?_
          exact next _ (by omega) ⟨by omega, by omega⟩
theorem spec_l2Digits_ev {n : Int} (h : In64 n) : Ev (fun k => spec_l2Digits.f k n) (num n) := by
  simp only [spec_l2Digits.f]
  by_cases h0 : n = 0
  · subst h0
    refine Ev.ite_pos rfl ?_
    refine Ev.val (r := (⟨#[48]⟩ : ByteArray)) ?_ (Ev.now _)
    unfold num Lib.itoa
    rw [if_neg (by omega), Int.toNat_zero, Lib.decDigits, dif_pos (by omega)]
    rfl
  · refine Ev.ite_neg h0 ?_
    have hd : (dd n.natAbs).length ≤ 19 := dd_length (by unfold In64 at h; omega)
    refine Ev.val ?_ (digits_loop n.natAbs n (decide (n < 0)) (⟨#[]⟩ : ByteArray) rfl h (by show 0 + _ ≤ 100; omega))
    have e : ∀ x : ByteArray, x ++ (⟨#[]⟩ : ByteArray) = x := fun x => ByteArray.append_empty
    rw [e]
    unfold num Lib.itoa dd
    rw [if_neg (c := n.natAbs = 0) (by omega)]
    by_cases hn : n < 0
    · rw [if_pos (by simpa using hn), if_pos hn]
      exact ba_append [45] _
    · rw [if_neg (by simpa using hn), if_neg hn, ByteArray.empty_append, show n.toNat = n.natAbs by omega]

/-- Texts behind a text, a blank ahead of each. -/
def blanks (s : ByteArray) : List ByteArray → ByteArray
  | [] => s
  | x :: l => blanks (s ++ ((⟨#[32]⟩ : ByteArray) ++ x)) l
/-- Texts with a blank between. -/
def joined : List ByteArray → ByteArray
  | [] => (⟨#[]⟩ : ByteArray)
  | x :: l => blanks x l
theorem blanks_eq : ∀ (l : List ByteArray) (s : ByteArray), (⟨(s.data.toList ++ Lib.joinTail [32] (l.map (·.data.toList))).toArray⟩ : ByteArray) = blanks s l
  | [], s => by
    apply ByteArray.ext
    simp [Lib.joinTail, blanks]
  | x :: l, s => by
    rw [blanks, ← blanks_eq l]
    apply ByteArray.ext
    simp [Lib.joinTail, ByteArray.data_append]
theorem blank_size (x : ByteArray) : ((⟨#[32]⟩ : ByteArray) ++ x).size = x.size + 1 := by
  rw [ByteArray.size_append]
  show 1 + x.size = x.size + 1
  omega
theorem blanks_size : ∀ (l : List ByteArray) (s : ByteArray), (∀ x ∈ l, x.size ≤ 100) → (blanks s l).size ≤ s.size + 101 * l.length ∧ s.size ≤ (blanks s l).size
  | [], s, _ => by simp [blanks]
  | x :: l, s, h => by
    have h1 := blanks_size l (s ++ ((⟨#[32]⟩ : ByteArray) ++ x)) (fun y hy => h y (List.mem_cons_of_mem _ hy))
    have h2 := h x List.mem_cons_self
    have h3 := blank_size x
    rw [ByteArray.size_append] at h1
    rw [blanks, List.length_cons]
    omega
theorem joined_size (l : List ByteArray) (h : ∀ x ∈ l, x.size ≤ 100) : (joined l).size ≤ 101 * l.length := by
  cases l with
  | nil => show 0 ≤ _; omega
  | cons x l =>
    have h1 := (blanks_size l x (fun y hy => h y (List.mem_cons_of_mem _ hy))).1
    have h2 := h x List.mem_cons_self
    rw [joined, List.length_cons]
    omega
theorem impl_Join_eq (l : List ByteArray) (hl : l.length ≤ 1048576) (h : ∀ x ∈ l, x.size ≤ 100) : strings_Join.f l (⟨#[32]⟩ : ByteArray) = some (joined l) := by
  have e : (⟨(Lib.join (l.map (·.data.toList)) [32]).toArray⟩ : ByteArray) = joined l := by
    cases l with
    | nil => rfl
    | cons x l =>
      simp only [List.map_cons, Lib.join_cons]
      exact blanks_eq l x
  have hs := joined_size l h
  have hn : (Lib.join (l.map (·.data.toList)) [32]).length = (joined l).size := by
    rw [← e]
    show _ = Array.size _
    rw [List.size_toArray]
  unfold strings_Join.f Tab.joinF
  show (if l.length ≤ 140737488355328 ∧ (Lib.join (l.map (·.data.toList)) [32]).length ≤ 140737488355328 then some (⟨(Lib.join (l.map (·.data.toList)) [32]).toArray⟩ : ByteArray) else none) = _
  rw [if_pos ⟨by omega, by omega⟩, e]
theorem take_next {α β : Type} (f : α → β) (l : List α) (j : Nat) (h : j < l.length) : (l.take j).map f ++ [f l[j]] = (l.take (j + 1)).map f := by
  rw [List.take_add_one, List.map_append, List.getElem?_eq_getElem h]
  rfl
theorem wf64 {z : Int} (h : (Lit.int .i64 z).wf = true) : In64 z := by
  unfold In64
  have h1 : IntKind.i64.min = -9223372036854775808 := rfl
  have h2 : IntKind.i64.max = 9223372036854775807 := rfl
  simp [Lit.wf, h1, h2] at h
  omega

/-- A channel's text. -/
def chanT (c : Int) (l : List Int) (cl : Bool) : ByteArray :=
  let s := (⟨#[91]⟩ : ByteArray) ++ joined (l.map num) ++ (⟨#[93]⟩ : ByteArray) ++ num (c - (l.length : Int))
  if cl = true then s ++ (⟨#[33]⟩ : ByteArray) else s
def chanText (c : Int) (l : List Int) (cl : Bool) : ByteArray := if chanOk c l = true then chanT c l cl else (⟨#[]⟩ : ByteArray)
theorem chan_len {c : Int} {l : List Int} (h : chanOk c l = true) : l.length ≤ 4 ∧ 1 ≤ c ∧ c ≤ 4 := by
  unfold chanOk inn at h
  simp only [Bool.and_eq_true, decide_eq_true_eq] at h
  omega
theorem nums_size {l : List Int} (hw : ∀ z ∈ l, In64 z) : ∀ x ∈ l.map num, x.size ≤ 100 := by
  intro x hx
  obtain ⟨z, hz, rfl⟩ := List.mem_map.mp hx
  have := num_size (hw z hz)
  omega
theorem impl_numbersText_l0 (l : List Int) (hl : l.length ≤ 1048576) (hw : ∀ z ∈ l, In64 z) : ∀ d (j : Nat), j + d = l.length → Ev (fun k => impl_numbersText.l0 k ((l.take j).map num) l (l.length : Int) (j : Int)) (joined (l.map num)) := by
  intro d
  induction d with
  | zero =>
    intro j hj
    obtain rfl : j = l.length := by omega
    rw [List.take_length]
    exact Ev.one fun k => by rw [impl_numbersText.l0, if_neg (by omega), impl_Join_eq _ (by simpa using hl) (nums_size hw), Option.bind_some]
  | succ d ih =>
    intro j hj
    have h : j < l.length := by omega
    have hz := hw l[j] (List.getElem_mem h)
    have er : rd l (j : Int) = l[j] := by simp [rd, rdOf, List.getD_eq_getElem?_getD, h]
    refine Ev.step (fun k => by rw [impl_numbersText.l0, if_pos (by omega), if_pos (by omega), if_pos (by omega), er, impl_digits_eq hz, Option.bind_some, if_pos (by simp; omega), wrapS h (by omega)]) ?_
    refine Ev.congr (fun k => ?_) (ih (j + 1) (by omega))
    rw [← take_next num l j h]
theorem impl_numbersText_ev (l : List Int) (hl : l.length ≤ 1048576) (hw : ∀ z ∈ l, In64 z) : Ev (fun k => impl_numbersText.f k l) (joined (l.map num)) := by
  simp only [impl_numbersText.f]
  exact impl_numbersText_l0 l hl hw l.length 0 (by omega)
theorem impl_ChanText_ev (c : Int) (l : List Int) (cl : Bool) (hl : l.length ≤ 1048576) (hw : ∀ z ∈ l, In64 z) : Ev (fun k => impl_ChanText.f k c l cl) (chanText c l cl) := by
  simp only [impl_ChanText.f]
  simp only [impl_ChanOk_eq c l cl, Option.bind_some]
  unfold chanText
  by_cases h : chanOk c l = true
  · obtain ⟨h1, h2, h3⟩ := chan_len h
    rw [if_pos h]
    refine Ev.ite_pos h ?_
    have hs := joined_size (l.map num) (nums_size hw)
    rw [List.length_map] at hs
    have hn : In64 (c - (l.length : Int)) := ⟨by omega, by omega⟩
    have hd := num_size hn
    have s1 : ((⟨#[91]⟩ : ByteArray) ++ joined (l.map num)).size = 1 + (joined (l.map num)).size := by rw [ByteArray.size_append]; rfl
    have s2 : ((⟨#[91]⟩ : ByteArray) ++ joined (l.map num) ++ (⟨#[93]⟩ : ByteArray)).size = 1 + (joined (l.map num)).size + 1 := by rw [ByteArray.size_append, s1]; rfl
    refine Ev.bind (impl_numbersText_ev l hl hw) ?_
    refine Ev.ite_pos (by omega) (Ev.ite_pos (by omega) ?_)
    simp only [wrap_in (n := c - (l.length : Int)) (by omega) (by omega), impl_digits_eq hn, Option.bind_some]
    refine Ev.ite_pos (by omega) ?_
    unfold chanT
    cases cl with
    | true => exact Ev.ite_pos rfl (Ev.ite_pos (by rw [ByteArray.size_append, s2]; omega) (Ev.now _))
    | false => exact Ev.ite_neg (by simp) (Ev.now _)
  · rw [if_neg h]
    exact Ev.ite_neg h (Ev.now _)
theorem spec_ChanText_l0 (c : Int) (l : List Int) (cl : Bool) (hl : l.length ≤ 4) (hc : 1 ≤ c ∧ c ≤ 4) (hw : ∀ z ∈ l, In64 z) : ∀ d (j : Nat) (s : ByteArray), 0 < j ∨ l = [] → j + d = l.length → s.size + 101 * d ≤ 1000000 → Ev (fun k => spec_ChanText.l0 k s (j : Int) c l cl) (let t := blanks s ((l.drop j).map num) ++ (⟨#[93]⟩ : ByteArray) ++ num (c - (l.length : Int)); if cl = true then t ++ (⟨#[33]⟩ : ByteArray) else t) := by
  intro d
  induction d with
  | zero =>
    intro j s h0 hj hs
    obtain rfl : j = l.length := by omega
    rw [List.drop_length, List.map_nil, blanks]
    have hn : In64 (c - (l.length : Int)) := ⟨by omega, by omega⟩
    have hd := num_size hn
    have s1 : (s ++ (⟨#[93]⟩ : ByteArray)).size = s.size + 1 := by rw [ByteArray.size_append]; rfl
    refine Ev.step (fun k => by rw [spec_ChanText.l0, if_neg (by omega), if_pos (by omega), wrap_in (n := c - (l.length : Int)) (by omega) (by omega)]) ?_
    refine Ev.bind (spec_l2Digits_ev hn) ?_
    refine Ev.ite_pos (by omega) ?_
    cases cl with
    | true => exact Ev.ite_pos rfl (Ev.ite_pos (by rw [ByteArray.size_append, s1]; omega) (Ev.now _))
    | false => exact Ev.ite_neg (by simp) (Ev.now _)
  | succ d ih =>
    intro j s h0 hj hs
    have h : j < l.length := by omega
    have hp : 0 < j := by
      rcases h0 with h0 | h0
      · exact h0
      · subst h0; simp at h
    have hz := hw l[j] (List.getElem_mem h)
    have s1 := num_size hz
    have s3 : (s ++ (⟨#[32]⟩ : ByteArray)).size = s.size + 1 := by rw [ByteArray.size_append]; rfl
    have er : rd l (j : Int) = l[j] := by simp [rd, rdOf, List.getD_eq_getElem?_getD, h]
    rw [List.drop_eq_getElem_cons h, List.map_cons, blanks]
    refine Ev.step (fun k => by rw [spec_ChanText.l0, if_pos (by omega), if_pos (by omega), if_pos (by omega), if_pos (by omega), er]) ?_
    refine Ev.bind (spec_l2Digits_ev hz) ?_
    refine Ev.ite_pos (by omega) ?_
    rw [wrapS h (by omega), ByteArray.append_assoc]
    exact ih (j + 1) (s ++ ((⟨#[32]⟩ : ByteArray) ++ num l[j])) (.inl (by omega)) (by omega) (by rw [ByteArray.size_append, blank_size]; omega)
theorem blanks_append : ∀ (l : List ByteArray) (s t : ByteArray), blanks (s ++ t) l = s ++ blanks t l
  | [], s, t => rfl
  | x :: l, s, t => by rw [blanks, blanks, ByteArray.append_assoc, blanks_append l]
theorem spec_ChanText_ev (c : Int) (l : List Int) (cl : Bool) (hl : l.length ≤ 1048576) (hw : ∀ z ∈ l, In64 z) : Ev (fun k => spec_ChanText.f k c l cl) (chanText c l cl) := by
  simp only [spec_ChanText.f]
  simp only [spec_ChanOk_eq c l cl, Option.bind_some]
  unfold chanText
  by_cases h : chanOk c l = true
  case neg =>
    rw [if_neg h]
    exact Ev.ite_neg h (Ev.now _)
  obtain ⟨h1, h2⟩ := chan_len h
  rw [if_pos h]
  refine Ev.ite_pos h ?_
  cases l with
  | nil =>
    have := spec_ChanText_l0 c [] cl (by simp) h2 (by simp) 0 0 (⟨#[91]⟩ : ByteArray) (.inr rfl) (by simp) (by show 1 + _ ≤ _; omega)
    have e : (⟨#[91]⟩ : ByteArray) ++ joined ([] : List ByteArray) = (⟨#[91]⟩ : ByteArray) := ByteArray.append_empty
    unfold chanT
    simp only [List.map_nil, e]
    exact this
  | cons x l =>
    have hz := hw x List.mem_cons_self
    have s1 := num_size hz
    have er : rd (x :: l) ((0 : Nat) : Int) = x := by simp [rd, rdOf]
    refine Ev.step (fun k => by rw [spec_ChanText.l0, if_pos (by simp), if_neg (by omega), if_pos (by omega), show rd (x :: l) 0 = x from er]) ?_
    refine Ev.bind (spec_l2Digits_ev hz) ?_
    refine Ev.ite_pos (by show 1 + _ ≤ _; omega) ?_
    rw [show wrap64 (0 + 1) = ((1 : Nat) : Int) from wrap_in (by omega) (by omega)]
    have := spec_ChanText_l0 c (x :: l) cl h1 h2 hw l.length 1 ((⟨#[91]⟩ : ByteArray) ++ num x) (.inl (by omega)) (by simp; omega) (by rw [ByteArray.size_append]; simp at h1; show 1 + _ + _ ≤ _; omega)
    unfold chanT
    rw [blanks_append] at this
    exact this

theorem FnExactChanText (x0_0 : Int) (x0_1 : (List Int)) (x0_2 : Bool) (ok0 : (((Lit.int .i64 x0_0).wf = true) ∧ ((x0_1.length ≤ maxLen ∧ ∀ z ∈ x0_1, ((Lit.int .i64 z).wf = true)) ∧ True))) : ∃ k, laws_FnExactChanText.f k x0_0 x0_1 x0_2 = some true := by
  have hl := ok0.2.1.1
  unfold maxLen at hl
  have hw : ∀ z ∈ x0_1, In64 z := fun z hz => wf64 (ok0.2.1.2 z hz)
  refine Ev.rounds (g := fun k => laws_FnExactChanText.f k x0_0 x0_1 x0_2) ?_
  simp only [laws_FnExactChanText.f]
  by_cases h : (x0_1.length : Int) ≤ 1048576
  · rw [szChan_yes (by omega) h]
    simp only [Option.bind_some, if_neg (show ¬ (1048576 - (x0_1.length : Int) < 0) by omega)]
    refine Ev.bind (toChan_ev _ _ _ (by omega)) ?_
    try dsimp only
    refine Ev.bind (spec_ChanText_ev x0_0 x0_1 x0_2 (by omega) hw) ?_
    refine Ev.bind (toChan_ev _ _ _ (by omega)) ?_
    try dsimp only
    refine Ev.bind (impl_ChanText_ev x0_0 x0_1 x0_2 (by omega) hw) ?_
    refine Ev.ite_pos rfl ?_
    refine Ev.bind (toChan_ev _ _ _ (by omega)) ?_
    try dsimp only
    refine Ev.bind (eqChan_self _ _ _ (by omega)) ?_
    simp only [if_true]
    exact Ev.now _
  · rw [szChan_no (by omega) (by omega) (by omega)]
    simp only [Option.bind_some, if_pos (show (-1 : Int) < 0 by omega)]
    exact Ev.now _

end Go.Proofs.YtkjfcmgpplapeaaDoor.Pure
