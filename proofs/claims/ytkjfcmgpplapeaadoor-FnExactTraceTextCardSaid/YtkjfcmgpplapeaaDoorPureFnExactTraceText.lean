/- The program's TraceText answers what the reference's does and leaves its arguments as they were: the printed law's function is true for all traces. -/
import Derived.Test.YtkjfcmgpplapeaaDoorPFnExactTraceTextx3
import Derived.Test.YtkjfcmgpplapeaaDoorLp
namespace Go.Proofs.YtkjfcmgpplapeaaDoor.Pure
open Go.RowKit Go.Proofs.YtkjfcmgpplapeaaDoor.PFnExactTraceText Go.Proofs.YtkjfcmgpplapeaaDoorW.PrintWords Go.Proofs.YtkjfcmgpplapeaaDoorW.PrintLast Go.Proofs.YtkjfcmgpplapeaaDoor.Lp
set_option linter.unusedVariables false
set_option linter.unusedSimpArgs false

def cvNote (x : S92) : S90 := ⟨x.f0, x.f1⟩

theorem szNoteS_ev (l : (List S92)) (a : Int) (h0 : 0 ≤ a) (hB : a ≤ 1048576) (hl : l.length ≤ 9223372036854775807) : Ev (fun k => laws_szNoteS.f l a) (left? l.length a) := by
  refine Ev.all fun k => ?_
  unfold laws_szNoteS.f left?
  rw [wrap_in (by omega) (by omega)]
  by_cases h : (l.length : Int) ≤ a
  · rw [if_neg (by omega), if_pos h]
  · rw [if_pos (by omega), if_neg h]

theorem toNote_ev (a_0 : Int) (a_1 : Int)  : Ev (fun k => laws_toNote.f a_0 a_1) (a_0, a_1) := by
  exact Ev.all fun k => rfl

theorem toNoteS_ev (xs : (List S92)) (h : xs.length ≤ 1048576) : Ev (fun k => laws_toNoteS.f k xs) (xs.map cvNote) := by
  have rd_e : ∀ (j : Nat) (hj : j < xs.length), rd_T92 xs (j : Int) = xs[j] := fun j hj => by simp [rd_T92, List.getD_eq_getElem?_getD, hj]
  have key := to_loop (L := fun j ys k => laws_toNoteS.l0 k xs ys (j : Int)) xs cvNote z90 (fun ys _ => Ev.one fun k => by simp only [laws_toNoteS.l0]; rw [if_neg (by omega)])
    (fun j hj ys hy r ih => by
      refine Ev.step (fun k => by simp only [laws_toNoteS.l0]; rw [if_pos (by omega), if_pos (by omega), rd_e j hj]) (Ev.bind (toNote_ev (xs[j].f0) (xs[j].f1) ) ?_)
      refine Ev.ite_pos (by omega) ?_
      rw [wrapS hj (by omega), Int.toNat_natCast]
      exact ih)
  refine Ev.congr (fun k => ?_) key
  unfold laws_toNoteS.f
  rw [if_pos (by omega), if_pos (by simp; omega)]
  simp only [Int.toNat_natCast]
  rfl

theorem eqNote_self (a_0 : Int) (a_1 : Int)  : Ev (fun k => laws_eqNote.f a_0 a_1 a_0 a_1) true := by
  exact Ev.all fun k => by simp [laws_eqNote.f]

theorem eqNoteS_self (xs : (List S90)) (h : xs.length ≤ 1048576) : Ev (fun k => laws_eqNoteS.f k xs xs) true := by
  have rd_e : ∀ (j : Nat) (hj : j < xs.length), rd_T90 xs (j : Int) = xs[j] := fun j hj => by simp [rd_T90, List.getD_eq_getElem?_getD, hj]
  have key := yes_loop (L := fun j k => laws_eqNoteS.l0 k xs xs (j : Int)) xs.length true (Ev.one fun k => by simp only [laws_eqNoteS.l0]; rw [if_neg (by omega)])
    (fun j hj ih => by
      refine Ev.step (fun k => by simp only [laws_eqNoteS.l0]; rw [if_pos (by omega), if_pos (by omega), if_pos (by omega), rd_e j hj]) (Ev.bind (eqNote_self (xs[j].f0) (xs[j].f1) ) ?_)
      refine Ev.ite_pos rfl ?_
      rw [wrapS hj (by omega)]
      exact ih)
  refine Ev.congr (fun k => ?_) key
  unfold laws_eqNoteS.f
  rw [if_pos rfl]
  rfl

/-- A number in decimal digits. -/
def num (n : Int) : ByteArray := ⟨(Lib.itoa n).toArray⟩
/-- A number of 64 bits. -/
def In64 (n : Int) : Prop := -9223372036854775808 ≤ n ∧ n ≤ 9223372036854775807
theorem num_size {n : Int} (h : In64 n) : (num n).size ≤ 21 := by
  show (Lib.itoa n).toArray.size ≤ 21
  rw [List.size_toArray]
  exact Lib.itoa_length_le n h.1 h.2
theorem impl_digits_eq {n : Int} (h : In64 n) : impl_digits.f n = some (num n) := if_pos h
theorem ba_append (a b : List UInt8) : (⟨a.toArray⟩ : ByteArray) ++ ⟨b.toArray⟩ = ⟨(a ++ b).toArray⟩ := by
  apply ByteArray.ext
  rw [ByteArray.data_append]
  simp
/-- The digits of a number; none of nought. -/
def dd (u : Nat) : List UInt8 := if u = 0 then [] else Lib.decDigits u
theorem dd_step {u : Nat} (h : u ≠ 0) : dd u = dd (u / 10) ++ [UInt8.ofNat (48 + u % 10)] := by
  unfold dd
  rw [if_neg h]
  by_cases c : u < 10
  · rw [if_pos (by omega), Lib.decDigits, dif_pos c, Nat.mod_eq_of_lt c]
    rfl
  · rw [if_neg (by omega), Lib.decDigits, dif_neg c]
theorem dd_length : ∀ {k u : Nat}, u < 10 ^ k → (dd u).length ≤ k
  | 0, u, h => by
    obtain rfl : u = 0 := by simpa using h
    simp [dd]
  | k + 1, u, h => by
    by_cases c : u = 0
    · subst c; simp [dd]
    · rw [dd_step c, List.length_append, List.length_singleton]
      have := dd_length (k := k) (u := u / 10) (by rw [Nat.pow_succ] at h; omega)
      omega
theorem one_char (d : Nat) (h : d < 10) : strOfNums [(48 + (d : Int)) % 256] = ⟨[UInt8.ofNat (48 + d)].toArray⟩ := by
  unfold strOfNums
  rw [List.map_cons, List.map_nil, show ((48 + (d : Int)) % 256).toNat = 48 + d by omega]
theorem digits_loop : ∀ (u : Nat) (x : Int) (neg : Bool) (s : ByteArray), x.natAbs = u → In64 x → s.size + (dd u).length ≤ 100 → Ev (fun k => spec_l2Digits.l0 k x neg s) ((if neg = true then (⟨#[45]⟩ : ByteArray) else ByteArray.empty) ++ (⟨(dd u).toArray⟩ ++ s)) := by
  intro u
  induction u using Nat.strongRecOn with
  | ind u ih =>
    intro x neg s hx hr hs
    by_cases h0 : x = 0
    · subst h0
      obtain rfl : u = 0 := by simpa using hx.symm
      have e0 : (⟨(dd 0).toArray⟩ : ByteArray) ++ s = s := ByteArray.empty_append
      rw [e0]
      refine Ev.step (fun k => by rw [spec_l2Digits.l0]) ?_
      refine Ev.ite_pos rfl ?_
      cases neg with
      | true => exact Ev.ite_pos rfl (Ev.ite_pos (by omega) (Ev.now _))
      | false =>
        refine Ev.ite_neg (by simp) ?_
        rw [if_neg (by simp), ByteArray.empty_append]
        exact Ev.now _
    · have hu : u ≠ 0 := by omega
      have hd : (dd u).length = (dd (u / 10)).length + 1 := by rw [dd_step hu]; simp
      have hsz : (strOfNums [(48 + ((u % 10 : Nat) : Int)) % 256]).size = 1 := by rw [one_char _ (by omega)]; rfl
      have next : ∀ y : Int, y.natAbs = u / 10 → In64 y → Ev (fun k => spec_l2Digits.l0 k y neg (strOfNums [(48 + ((u % 10 : Nat) : Int)) % 256] ++ s)) ((if neg = true then (⟨#[45]⟩ : ByteArray) else ByteArray.empty) ++ (⟨(dd u).toArray⟩ ++ s)) := by
        intro y hy hry
        refine Ev.val ?_ (ih (u / 10) (by omega) y neg _ hy hry (by rw [ByteArray.size_append, hsz]; omega))
        rw [one_char _ (by omega), dd_step hu, ← ba_append, ByteArray.append_assoc]
      refine Ev.step (fun k => by rw [spec_l2Digits.l0]) ?_
      refine Ev.ite_neg h0 ?_
      simp only [Option.bind_some]
      unfold In64 at hr
      rcases Int.le_total 0 x with hp | hp
      · obtain rfl : x = (u : Int) := by omega
        have em : Int.tmod (u : Int) 10 = ((u % 10 : Nat) : Int) := by rw [Int.tmod_eq_emod_of_nonneg (by omega)]; omega
        have ed : Int.tdiv (u : Int) 10 = ((u / 10 : Nat) : Int) := by rw [Int.tdiv_eq_ediv_of_nonneg (by omega)]; omega
        rw [em, ed]
        refine Ev.ite_neg (by omega) ?_
        rw [wrap_in (n := 48 + ((u % 10 : Nat) : Int)) (by omega) (by omega), wrap_in (n := ((u / 10 : Nat) : Int)) (by omega) (by omega)]
        refine Ev.ite_pos (by rw [hsz]; omega) ?_
        exact next _ (by omega) ⟨by omega, by omega⟩
      · obtain ⟨v, hv⟩ : ∃ v : Nat, v = u := ⟨u, rfl⟩
        obtain rfl : x = -(u : Int) := by omega
        have em : Int.tmod (-(u : Int)) 10 = -((u % 10 : Nat) : Int) := by rw [Int.neg_tmod, Int.tmod_eq_emod_of_nonneg (by omega)]; omega
        have ed : Int.tdiv (-(u : Int)) 10 = -((u / 10 : Nat) : Int) := by rw [Int.neg_tdiv, Int.tdiv_eq_ediv_of_nonneg (by omega)]; omega
        rw [em, ed, Int.neg_neg]
        have e3 : wrap64 (-((u / 10 : Nat) : Int)) = -((u / 10 : Nat) : Int) := wrap_in (by omega) (by omega)
        by_cases hz : -((u % 10 : Nat) : Int) < 0
        · refine Ev.ite_pos hz ?_
          rw [wrap_in (n := ((u % 10 : Nat) : Int)) (by omega) (by omega), wrap_in (n := 48 + ((u % 10 : Nat) : Int)) (by omega) (by omega), e3]
          refine Ev.ite_pos (by rw [hsz]; omega) ?_
          exact next _ (by omega) ⟨by omega, by omega⟩
        · refine Ev.ite_neg hz ?_
          have e0 : ((u % 10 : Nat) : Int) = 0 := by omega
          rw [show -((u % 10 : Nat) : Int) = ((u % 10 : Nat) : Int) by omega, wrap_in (n := 48 + ((u % 10 : Nat) : Int)) (by omega) (by omega), e3]
          refine Ev.ite_pos (by rw [hsz]; omega) ?_
          exact next _ (by omega) ⟨by omega, by omega⟩
theorem spec_l2Digits_ev {n : Int} (h : In64 n) : Ev (fun k => spec_l2Digits.f k n) (num n) := by
  simp only [spec_l2Digits.f]
  by_cases h0 : n = 0
  · subst h0
    refine Ev.ite_pos rfl ?_
    refine Ev.val (r := (⟨#[48]⟩ : ByteArray)) ?_ (Ev.now _)
    unfold num Lib.itoa
    rw [if_neg (by omega), Int.toNat_zero, Lib.decDigits, dif_pos (by omega)]
    rfl
  · refine Ev.ite_neg h0 ?_
    have hd : (dd n.natAbs).length ≤ 19 := dd_length (by unfold In64 at h; omega)
    refine Ev.val ?_ (digits_loop n.natAbs n (decide (n < 0)) (⟨#[]⟩ : ByteArray) rfl h (by show 0 + _ ≤ 100; omega))
    have e : ∀ x : ByteArray, x ++ (⟨#[]⟩ : ByteArray) = x := fun x => ByteArray.append_empty
    rw [e]
    unfold num Lib.itoa dd
    rw [if_neg (c := n.natAbs = 0) (by omega)]
    by_cases hn : n < 0
    · rw [if_pos (by simpa using hn), if_pos hn]
      exact ba_append [45] _
    · rw [if_neg (by simpa using hn), if_neg hn, ByteArray.empty_append, show n.toNat = n.natAbs by omega]

/-- Texts behind a text, a blank ahead of each. -/
def blanks (s : ByteArray) : List ByteArray → ByteArray
  | [] => s
  | x :: l => blanks (s ++ ((⟨#[32]⟩ : ByteArray) ++ x)) l
/-- Texts with a blank between. -/
def joined : List ByteArray → ByteArray
  | [] => (⟨#[]⟩ : ByteArray)
  | x :: l => blanks x l
theorem blanks_eq : ∀ (l : List ByteArray) (s : ByteArray), (⟨(s.data.toList ++ Lib.joinTail [32] (l.map (·.data.toList))).toArray⟩ : ByteArray) = blanks s l
  | [], s => by
    apply ByteArray.ext
    simp [Lib.joinTail, blanks]
  | x :: l, s => by
    rw [blanks, ← blanks_eq l]
    apply ByteArray.ext
    simp [Lib.joinTail, ByteArray.data_append]
theorem blank_size (x : ByteArray) : ((⟨#[32]⟩ : ByteArray) ++ x).size = x.size + 1 := by
  rw [ByteArray.size_append]
  show 1 + x.size = x.size + 1
  omega
theorem blanks_size : ∀ (l : List ByteArray) (s : ByteArray), (∀ x ∈ l, x.size ≤ 100) → (blanks s l).size ≤ s.size + 101 * l.length ∧ s.size ≤ (blanks s l).size
  | [], s, _ => by simp [blanks]
  | x :: l, s, h => by
    have h1 := blanks_size l (s ++ ((⟨#[32]⟩ : ByteArray) ++ x)) (fun y hy => h y (List.mem_cons_of_mem _ hy))
    have h2 := h x List.mem_cons_self
    have h3 := blank_size x
    rw [ByteArray.size_append] at h1
    rw [blanks, List.length_cons]
    omega
theorem joined_size (l : List ByteArray) (h : ∀ x ∈ l, x.size ≤ 100) : (joined l).size ≤ 101 * l.length := by
  cases l with
  | nil => show 0 ≤ _; omega
  | cons x l =>
    have h1 := (blanks_size l x (fun y hy => h y (List.mem_cons_of_mem _ hy))).1
    have h2 := h x List.mem_cons_self
    rw [joined, List.length_cons]
    omega
theorem impl_Join_eq (l : List ByteArray) (hl : l.length ≤ 1048576) (h : ∀ x ∈ l, x.size ≤ 100) : strings_Join.f l (⟨#[32]⟩ : ByteArray) = some (joined l) := by
  have e : (⟨(Lib.join (l.map (·.data.toList)) [32]).toArray⟩ : ByteArray) = joined l := by
    cases l with
    | nil => rfl
    | cons x l =>
      simp only [List.map_cons, Lib.join_cons]
      exact blanks_eq l x
  have hs := joined_size l h
  have hn : (Lib.join (l.map (·.data.toList)) [32]).length = (joined l).size := by
    rw [← e]
    show _ = Array.size _
    rw [List.size_toArray]
  unfold strings_Join.f Tab.joinF
  show (if l.length ≤ 140737488355328 ∧ (Lib.join (l.map (·.data.toList)) [32]).length ≤ 140737488355328 then some (⟨(Lib.join (l.map (·.data.toList)) [32]).toArray⟩ : ByteArray) else none) = _
  rw [if_pos ⟨by omega, by omega⟩, e]
theorem take_next {α β : Type} (f : α → β) (l : List α) (j : Nat) (h : j < l.length) : (l.take j).map f ++ [f l[j]] = (l.take (j + 1)).map f := by
  rw [List.take_add_one, List.map_append, List.getElem?_eq_getElem h]
  rfl
theorem wf64 {z : Int} (h : (Lit.int .i64 z).wf = true) : In64 z := by
  unfold In64
  have h1 : IntKind.i64.min = -9223372036854775808 := rfl
  have h2 : IntKind.i64.max = 9223372036854775807 := rfl
  simp [Lit.wf, h1, h2] at h
  omega

theorem rd_note (l : List S90) (j : Nat) (h : j < l.length) : rd_T90 l (j : Int) = l[j] := by simp [rd_T90, List.getD_eq_getElem?_getD, h]
/-- A note's text. -/
def noteT (x : S90) : ByteArray := num x.f0 ++ (⟨#[58]⟩ : ByteArray) ++ num x.f1
/-- A trace's text. -/
def traceT (l : List S90) : ByteArray := if l = [] then (⟨#[45]⟩ : ByteArray) else joined (l.map noteT)
def In2 (x : S90) : Prop := In64 x.f0 ∧ In64 x.f1
theorem note_size {x : S90} (h : In2 x) : (noteT x).size ≤ 50 ∧ 1 ≤ (noteT x).size := by
  have h1 := num_size h.1
  have h2 := num_size h.2
  unfold noteT
  rw [ByteArray.size_append, ByteArray.size_append]
  have : (⟨#[58]⟩ : ByteArray).size = 1 := rfl
  omega
theorem notes_size {l : List S90} (hw : ∀ z ∈ l, In2 z) : ∀ x ∈ l.map noteT, x.size ≤ 100 := by
  intro x hx
  obtain ⟨z, hz, rfl⟩ := List.mem_map.mp hx
  have := (note_size (hw z hz)).1
  omega
theorem impl_TraceText_l0 (l : List S90) (hl : l.length ≤ 1048576) (hw : ∀ z ∈ l, In2 z) : ∀ d (j : Nat), j + d = l.length → Ev (fun k => impl_TraceText.l0 k ((l.take j).map noteT) l (l.length : Int) (j : Int)) (joined (l.map noteT)) := by
  intro d
  induction d with
  | zero =>
    intro j hj
    obtain rfl : j = l.length := by omega
    rw [List.take_length]
    exact Ev.one fun k => by rw [impl_TraceText.l0, if_neg (by omega), impl_Join_eq _ (by simpa using hl) (notes_size hw), Option.bind_some]
  | succ d ih =>
    intro j hj
    have h : j < l.length := by omega
    have hz := hw l[j] (List.getElem_mem h)
    have s1 := num_size hz.1
    have s2 := num_size hz.2
    have s3 : (num l[j].f0 ++ (⟨#[58]⟩ : ByteArray)).size = (num l[j].f0).size + 1 := by rw [ByteArray.size_append]; rfl
    refine Ev.step (fun k => by rw [impl_TraceText.l0, if_pos (by omega), if_pos (by omega), if_pos (by omega), rd_note l j h, impl_digits_eq hz.1, Option.bind_some, if_pos (by omega), impl_digits_eq hz.2, Option.bind_some, if_pos (by omega), if_pos (by simp; omega), wrapS h (by omega)]) ?_
    refine Ev.congr (fun k => ?_) (ih (j + 1) (by omega))
    rw [← take_next noteT l j h]
    rfl
theorem impl_TraceText_ev (l : List S90) (hl : l.length ≤ 1048576) (hw : ∀ z ∈ l, In2 z) : Ev (fun k => impl_TraceText.f k l) (traceT l) := by
  simp only [impl_TraceText.f]
  unfold traceT
  by_cases h : l = []
  · subst h
    exact Ev.ite_pos rfl (by rw [if_pos rfl]; exact Ev.now _)
  · have : l.length ≠ 0 := by simpa using h
    rw [if_neg h]
    exact Ev.ite_neg (by omega) (impl_TraceText_l0 l hl hw l.length 0 (by omega))
/-- What the reference's loop hands back. -/
def endT (s : ByteArray) : ByteArray := if s.size = 0 then (⟨#[45]⟩ : ByteArray) else s
theorem ba_list (s : ByteArray) : s.toList = [] ↔ s.size = 0 := by
  rw [ByteArray.toList_eq, ← List.length_eq_zero_iff, Array.length_toList]
  rfl
theorem end_ev (s : ByteArray) : (if s.toList = ([] : List UInt8) then some (⟨#[45]⟩ : ByteArray) else some s) = some (endT s) := by
  unfold endT
  by_cases h : s.size = 0
  · rw [if_pos ((ba_list s).mpr h), if_pos h]
  · rw [if_neg (fun h' => h ((ba_list s).mp h')), if_neg h]
theorem spec_TraceText_l0 (l : List S90) (hl : l.length ≤ 1048576) (hw : ∀ z ∈ l, In2 z) : ∀ d (j : Nat) (s : ByteArray), 0 < j → j + d = l.length → s.size + 101 * d ≤ 1000000000 → Ev (fun k => spec_TraceText.l0 k l s (j : Int)) (endT (blanks s ((l.drop j).map noteT))) := by
  intro d
  induction d with
  | zero =>
    intro j s h0 hj hs
    obtain rfl : j = l.length := by omega
    rw [List.drop_length, List.map_nil, blanks]
    exact Ev.one fun k => by rw [spec_TraceText.l0, if_neg (by omega), end_ev]
  | succ d ih =>
    intro j s h0 hj hs
    have h : j < l.length := by omega
    have hz := hw l[j] (List.getElem_mem h)
    have s1 := num_size hz.1
    have s2 := num_size hz.2
    have s0 := note_size hz
    have s3 : (s ++ (⟨#[32]⟩ : ByteArray)).size = s.size + 1 := by rw [ByteArray.size_append]; rfl
    have s4 : ((s ++ (⟨#[32]⟩ : ByteArray)) ++ num l[j].f0).size = s.size + 1 + (num l[j].f0).size := by rw [ByteArray.size_append, s3]
    have s5 : (((s ++ (⟨#[32]⟩ : ByteArray)) ++ num l[j].f0) ++ (⟨#[58]⟩ : ByteArray)).size = s.size + 1 + (num l[j].f0).size + 1 := by rw [ByteArray.size_append, s4]; rfl
    rw [List.drop_eq_getElem_cons h, List.map_cons, blanks]
    refine Ev.step (fun k => by rw [spec_TraceText.l0, if_pos (by omega), if_pos (by omega), if_pos (by omega), if_pos (by omega), rd_note l j h]) ?_
    refine Ev.bind (spec_l2Digits_ev hz.1) ?_
    refine Ev.ite_pos (by omega) (Ev.ite_pos (by omega) ?_)
    refine Ev.bind (spec_l2Digits_ev hz.2) ?_
    refine Ev.ite_pos (by omega) ?_
    rw [wrapS h (by omega)]
    refine Ev.congr (fun k => ?_) (ih (j + 1) (s ++ ((⟨#[32]⟩ : ByteArray) ++ noteT l[j])) (by omega) (by omega) (by rw [ByteArray.size_append, blank_size]; omega))
    unfold noteT
    simp only [ByteArray.append_assoc]
theorem spec_TraceText_ev (l : List S90) (hl : l.length ≤ 1048576) (hw : ∀ z ∈ l, In2 z) : Ev (fun k => spec_TraceText.f k l) (traceT l) := by
  simp only [spec_TraceText.f]
  cases l with
  | nil => exact Ev.one fun k => by rw [spec_TraceText.l0, if_neg (by simp), end_ev]; rfl
  | cons x l =>
    have hz := hw x List.mem_cons_self
    have s1 := num_size hz.1
    have s2 := num_size hz.2
    have s0 := note_size hz
    have s3 : (num x.f0 ++ (⟨#[58]⟩ : ByteArray)).size = (num x.f0).size + 1 := by rw [ByteArray.size_append]; rfl
    have e : ∀ y : ByteArray, (⟨#[]⟩ : ByteArray) ++ y = y := fun y => ByteArray.empty_append
    have er : rd_T90 (x :: l) ((0 : Nat) : Int) = x := rd_note (x :: l) 0 (by simp)
    have hv : traceT (x :: l) = endT (blanks (noteT x) (((x :: l).drop 1).map noteT)) := by
      unfold traceT endT
      have hb := (blanks_size (l.map noteT) (noteT x) (notes_size (fun z hz => hw z (List.mem_cons_of_mem _ hz)))).2
      show _ = if (blanks (noteT x) (l.map noteT)).size = 0 then _ else _
      rw [if_neg (by simp), if_neg (by omega)]
      rfl
    rw [hv]
    refine Ev.step (fun k => by rw [spec_TraceText.l0, if_pos (by simp), if_neg (by omega), if_pos (by omega), show rd_T90 (x :: l) 0 = x from er]) ?_
    refine Ev.bind (spec_l2Digits_ev hz.1) ?_
    rw [e]
    refine Ev.ite_pos (by show 0 + _ ≤ _; omega) (Ev.ite_pos (by omega) ?_)
    refine Ev.bind (spec_l2Digits_ev hz.2) ?_
    refine Ev.ite_pos (by rw [s3]; omega) ?_
    rw [show wrap64 (0 + 1) = ((1 : Nat) : Int) from wrap_in (by omega) (by omega)]
    exact spec_TraceText_l0 (x :: l) hl hw l.length 1 (noteT x) (by omega) (by simp; omega) (by simp at hl; omega)

theorem FnExactTraceText (x0 : (List S92)) (ok0 : (x0.length ≤ maxLen ∧ ∀ z ∈ x0, (((Lit.int .i64 z.f0).wf = true) ∧ ((Lit.int .i64 z.f1).wf = true)))) : ∃ k, laws_FnExactTraceText.f k x0 = some true := by
  have hl : x0.length ≤ 9223372036854775807 := by have := ok0.1; unfold maxLen at this; omega
  have hw : ∀ z ∈ x0.map cvNote, In2 z := by
    intro z hz
    obtain ⟨y, hy, rfl⟩ := List.mem_map.mp hz
    have := ok0.2 y hy
    exact ⟨wf64 this.1, wf64 this.2⟩
  refine Ev.rounds (g := fun k => laws_FnExactTraceText.f k x0) ?_
  simp only [laws_FnExactTraceText.f]
  refine Ev.bind (szNoteS_ev x0 1048576 (by omega) (by omega) hl) ?_
  by_cases h : (x0.length : Int) ≤ 1048576
  case neg => rw [left?_no h]; exact Ev.ite_pos (by omega) (Ev.now _)
  rw [left?_yes h]
  refine Ev.ite_neg (by omega) ?_
  have hm : (x0.map cvNote).length ≤ 1048576 := by simp; omega
  refine Ev.bind (toNoteS_ev x0 (by omega)) ?_
  refine Ev.bind (spec_TraceText_ev _ hm hw) ?_
  refine Ev.bind (toNoteS_ev x0 (by omega)) ?_
  refine Ev.bind (impl_TraceText_ev _ hm hw) ?_
  refine Ev.ite_pos rfl ?_
  refine Ev.bind (toNoteS_ev x0 (by omega)) ?_
  refine Ev.bind (eqNoteS_self _ hm) ?_
  simp only [if_true]
  exact Ev.now _

end Go.Proofs.YtkjfcmgpplapeaaDoor.Pure
