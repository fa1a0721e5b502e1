/- A part of the proof that the law FnTexts holds for every input: the words, functions and walks that its row needs, without a condition of their own. -/
import Derived.Test.YtdbobicbbfmepaaDoorZFnTextsa4
import Derived.Test.YtdbobicbbfmepaaDoorZFnTextsa9
import Derived.Test.YtdbobicbbfmepaaDoorZFnTextsa11
import Derived.Test.YtdbobicbbfmepaaDoorZFnTextss
namespace Go.Proofs.YtdbobicbbfmepaaDoor.PFnTexts
open Go.RowKit Go.Proofs.YtdbobicbbfmepaaDoorW.PrintWords Go.Proofs.YtdbobicbbfmepaaDoorW.PrintLast Go.Proofs.YtdbobicbbfmepaaDoorW.PrintMore
attribute [local go_sem] max2_int min2_int max_two min_two max_three min_three max_four min_four   -- for this text's walks alone
set_option linter.unusedVariables false
set_option linter.unusedSimpArgs false
def impl_numbersText.l0 : Nat → List ByteArray → List Int → Int → Int → Option (ByteArray)
  | 0, _, _, _, _ => none
  | k + 1, x3, x7, x8, x9 => if x9 < x8 then (if 0 ≤ x9 then (if x9 < (x7.length : Int) then ((impl_digits.f (rd x7 x9)).bind fun t446 => (if x3.length < 8796093022208 then (impl_numbersText.l0 k (x3 ++ [t446]) x7 x8 (wrap64 (x9 + 1))) else (none))) else (none)) else (none)) else ((strings_Join.f x3 (⟨#[32]⟩ : ByteArray)).bind fun t450 => (some t450))
def impl_numbersText.f (k : Nat) (l0 : List Int) : Option (ByteArray) := impl_numbersText.l0 k (([] : List ByteArray)) l0 (l0.length : Int) 0
set_option maxHeartbeats 8000000 in
set_option maxRecDepth 100000 in
theorem impl_numbersText.calls (k : Nat) (A0 : Option Addr) (c0 : Nat) (l0 : List Int) (r : ByteArray) (w : World) (hr0 : Kd.C (Kd.int .i64) w A0 l0.length l0) (hc0 : l0.length ≤ c0) (h : impl_numbersText.f k l0 = some r) (hT : Tab.Laid w) :
  Calls Tryd.prog 44 #[.slice A0 l0.length c0] w fun e w' => e = .returned (.string r) ∧ Below w.heap.size w w' := by
 have HR0 := aM_ hr0
 have HC0 := aM_ hc0
 clear hr0 hc0
 have HB := aM_ (Below.refl w.heap.size w)
 have H : (impl_numbersText.l0 k (([] : List ByteArray)) l0 (l0.length : Int) 0) = some r := h
 clear h
 obtain ⟨y442, hy442⟩ : ∃ y_ : List ByteArray, y_ = (([] : List ByteArray)) := ⟨_, rfl⟩
 replace H : (impl_numbersText.l0 k y442 l0 (l0.length : Int) 0) = some r := by first | (rw [hy442]; with_reducible exact H) | (have H2_ := (Option.bind_some _ _).symm.trans H; rw [hy442]; with_reducible exact H2_) | (have H2_ := (Option.bind_some _ _).symm.trans H; with_reducible exact H2_) | with_reducible exact H | (rw [hy442]; exact H) | exact H
 have Ny442 := aM_ hy442
 clear hy442
 have H' := aM_ H
 clear H
 go_enter Tryd.func44, Tryd.ntmps44
 go_wp2_with (first | ((with_reducible refine gate_dst (N := 6) rfl ?_); refine Kd.R_lit Kd.string _ 9 ?hg (N := 6) ?hd (xs := ([] : List ByteArray)) (inner := []) (ok := fun _ => True) (okp := fun _ => True) ?hr ?hp (fun _ hk => hk) trivial (Below.refl _ _) (Nat.le_refl _) (by simp) ?_; (case hd => rfl); (case hg => rfl); (case hr => first | (go_simp; done) | (go_simp; rfl)); (case hp => exact (Reps.none _ _)); intro v443 w2 ho3 hb hg_ hnew_; clear hg_ hnew_; (first | rw [← Ny442.out] at ho3 | (simp only [Int.reduceToNat] at ho3; rw [← Ny442.out] at ho3)); have n0 := aM_ (Kd.R_lower ho3 (below_size (gB_ HB.out))); have n1 := aM_ (sT_ HB.out hb); clear HB; have HO444 := n0; have HB := n1; clear n0 n1; clear hb ho3))
 go_loopg [3, 9] k (fun kq v3 v9 w' => ∃ (x3_1 : List ByteArray) (x9_1 : Int), v9 = .int .i64 x9_1 ∧ Aside0 (impl_numbersText.l0 kq x3_1 l0 (l0.length : Int) x9_1 = some r) ∧ Aside0 (kq ≤ k) ∧ Aside0 (Kd.R Kd.string 9 w' w.heap.size (fun _ => True) v3 x3_1) ∧ Aside0 (Below w.heap.size w w'))
 case atStart => exact ⟨(y442), (0), (by first | rfl | (simp; done) | (simp [*]; done)), H', ⟨Nat.le_refl _⟩, ⟨by (with_reducible repeat (first | apply rA_ | apply rN_ | apply rD_)); exact HO444.out⟩, ⟨gW_ HB.out⟩⟩
 case round =>
  clear H'
  try clear p2
  obtain ⟨x3_1, x9_1, rfl, HA, HK1, HO_3, HB⟩ := hrel
  cases gk with
  | zero => exact absurd HA.out (by simp [impl_numbersText.l0])
  | succ k1 =>
   have H := HA.out
   clear HA
   simp only [impl_numbersText.l0] at H
   by_cases c4 : x9_1 < (l0.length : Int)
   ·rw [if_pos c4] at H
    have c4b0 : decide (x9_1 < (l0.length : Int)) = true := decide_eq_true c4
    clear c4
    by_cases c5 : 0 ≤ x9_1
    ·rw [if_pos c5] at H
     have c5b0 : decide (0 ≤ x9_1) = true := decide_eq_true c5
     clear c5
     by_cases c6 : x9_1 < (l0.length : Int)
     ·rw [if_pos c6] at H
      have c6b0 : decide (x9_1 < (l0.length : Int)) = true := decide_eq_true c6
      clear c6
      replace H := Option.bind_eq_some_iff.mp H
      obtain ⟨t446, A70, H⟩ := H
      replace H : (if x3_1.length < 8796093022208 then (impl_numbersText.l0 k1 (x3_1 ++ [t446]) l0 (l0.length : Int) (wrap64 (x9_1 + 1))) else (none)) = some r := H
      have A7 := aM_ A70
      clear A70
      by_cases c8 : x3_1.length < 8796093022208
      ·rw [if_pos c8] at H
       have LMc8 := aM_ c8
       clear c8
       obtain ⟨y447, hy447⟩ : ∃ y_ : List ByteArray, y_ = (x3_1 ++ [t446]) := ⟨_, rfl⟩
       replace H : (impl_numbersText.l0 k1 y447 l0 (l0.length : Int) (wrap64 (x9_1 + 1))) = some r := by first | (rw [hy447]; with_reducible exact H) | (have H2_ := (Option.bind_some _ _).symm.trans H; rw [hy447]; with_reducible exact H2_) | (have H2_ := (Option.bind_some _ _).symm.trans H; with_reducible exact H2_) | with_reducible exact H | (rw [hy447]; exact H) | exact H
       have Ny447 := aM_ hy447
       clear hy447
       have H' := aM_ H
       clear H
       have p445 : 0 ≤ (x9_1 : Int) := of_decide_eq_true (by first | (with_reducible assumption) | assumption)
       have q445 : x9_1 < (l0.length : Int) := of_decide_eq_true (by first | (with_reducible assumption) | assumption)
       obtain ⟨ad445, e445, hx445_0⟩ := Kd.at_int HR0.out x9_1 p445 q445
       cases e445
       replace hx445_0 := cB_ HB.out hx445_0
       replace p445 := eq_true p445
       replace q445 := eq_true q445
       go_wp2_with (first | ((with_reducible refine gate_callee (f := 40) rfl ?_); refine gL_ (some 15) Tryd.func40 #[.int .i64 (rd l0 x9_1)] ?_; (with_reducible refine (impl_digits.calls (rd l0 x9_1) t446 _ A7.out ?sT).mono ?_); (case sT => exact TabL_ hT HB.out); rintro e w9 ⟨rfl, hb⟩; refine ⟨_, rfl, ?_⟩; have n0 := aM_ (bR_ HO_3.out hb); have n1 := aM_ (sT_ HB.out hb); clear HO_3; clear HB; have HO_3 := n0; have HB := n1; clear n0 n1) | ((with_reducible refine gate_builtin (b := .append) (xs := #[.tmp 13, .tmp 16]) rfl ?_); at_builtin; refine Kd.R_append Kd.string (w0 := w) w.heap.size rfl (.tmp 13) (.tmp 16) 64 9 (.string ⟨#[]⟩) 16 rfl Tryd.underlying64 info9 rfl (by decide) (by omega) u3 x3_1 t446 [.string t446] (fun _ => True) (fun _ => False) rfl rfl ?aP (fun _ hk => hk.elim) ?aF ?aO ?aB ?aS ?aL ?_; (case aP => exact rfl); (case aB => exact (gB_ HB.out)); (case aF => exact (fun _ _ => trivial)); (case aO => exact (by (with_reducible repeat (first | apply rA_ | apply rN_ | apply rD_)); exact HO_3.out)); (case aS => exact (below_size (gB_ HB.out))); (case aL => have := LMc8.out; omega); intro v448 w10 ho hb hg hat; rw [← Ny447.out] at ho; have n0 := aM_ (hb); have n1 := aM_ (ho); clear HB; clear HO_3; have HB := n0; have HO449 := n1; clear n0 n1; clear ho hb hg hat))
       go_roundg k1
       case measure => have := HK1.out; omega
       case rel => exact ⟨(y447), (wrap64 (x9_1 + 1)), (by first | rfl | (simp; done) | (simp [*]; done)), H', ⟨by have := HK1.out; omega⟩, ⟨by (with_reducible repeat (first | apply rA_ | apply rN_ | apply rD_)); exact HO449.out⟩, ⟨gW_ HB.out⟩⟩
      ·rw [if_neg c8] at H
       exact absurd H (by simp)
     ·rw [if_neg c6] at H
      exact absurd H (by simp)
    ·rw [if_neg c5] at H
     exact absurd H (by simp)
   ·rw [if_neg c4] at H
    have c4b0 : decide (x9_1 < (l0.length : Int)) = false := decide_eq_false c4
    clear c4
    replace H := Option.bind_eq_some_iff.mp H
    obtain ⟨t450, A110, H⟩ := H
    replace H : (some t450) = some r := H
    have A11 := aM_ A110
    clear A110
    obtain rfl := Option.some.inj H
    obtain ⟨Ao12, co12, eo12⟩ := Kd.R_slice HO_3.out
    subst eo12
    go_wp2_with (first | ((with_reducible refine gate_callee (f := 43) rfl ?_); refine gL_ (some 20) Tryd.func43 #[.slice Ao12 x3_1.length co12, .string (⟨#[32]⟩ : ByteArray)] ?_; (with_reducible refine (strings_Join.calls _ _ x3_1 (⟨#[32]⟩ : ByteArray) t450 _ ?side1 ?side2 A11.out).mono ?_); (case side1 => exact cS_ (Kd.R_reads' HO_3.out).2.2); (case side2 => exact (Kd.R_reads' HO_3.out).2.1); rintro e w13 ⟨rfl, hb⟩; refine ⟨_, rfl, ?_⟩; have n0 := aM_ (bR_ HO_3.out hb); have n1 := aM_ (sT_ HB.out hb); clear HO_3; clear HB; have HO_3 := n0; have HB := n1; clear n0 n1))
    go_ret
    exact fI_ HB.out
def impl_ChanText.f (k : Nat) (a0_0 : Int) (l0_1 : List Int) (a0_2 : Bool) : Option (ByteArray) := (impl_ChanOk.f a0_0 l0_1 a0_2).bind fun t452 => (if t452 = true then ((impl_numbersText.f k l0_1).bind fun t453 => (if 1 + t453.size ≤ 9223372036854775807 then (if ((⟨#[91]⟩ : ByteArray) ++ t453).size + 1 ≤ 9223372036854775807 then ((impl_digits.f (wrap64 (a0_0 - (l0_1.length : Int)))).bind fun t454 => (if (((⟨#[91]⟩ : ByteArray) ++ t453) ++ (⟨#[93]⟩ : ByteArray)).size + t454.size ≤ 9223372036854775807 then (if a0_2 = true then (if ((((⟨#[91]⟩ : ByteArray) ++ t453) ++ (⟨#[93]⟩ : ByteArray)) ++ t454).size + 1 ≤ 9223372036854775807 then (some (((((⟨#[91]⟩ : ByteArray) ++ t453) ++ (⟨#[93]⟩ : ByteArray)) ++ t454) ++ (⟨#[33]⟩ : ByteArray))) else (none)) else (some ((((⟨#[91]⟩ : ByteArray) ++ t453) ++ (⟨#[93]⟩ : ByteArray)) ++ t454))) else (none))) else (none)) else (none))) else (some (⟨#[]⟩ : ByteArray)))
def impl_ChanText.T3 : Bool × List (List Nat × List Nat) := (true, [([], []), ([0], [0]), ([1], [1]), ([2], [2]), ([3], [3]), ([], []), ([5], [5]), ([], []), ([7], [7]), ([8], [8]), ([6, 9], [6, 9]), ([10, 2], [10]), ([4, 11], [4, 11]), ([12, 11, 0, 1, 2, 3, 4, 5, 6, 7, 8, 9, 10, 11, 12], [12])])
def impl_ChanText.B3 : List Nat := [0, 1, 3, 7, 15, 0, 32, 0, 128, 384, 992, 2023, 4095, 8191]
theorem impl_ChanText.tab3 : rtab .any (opsOf Tryd.f14 3) = impl_ChanText.T3 := by kernel_rfl
theorem impl_ChanText.bits3 : waitsOk impl_ChanText.T3.2 impl_ChanText.B3 = true := by kernel_rfl
set_option maxHeartbeats 8000000 in
set_option maxRecDepth 100000 in
theorem impl_ChanText.calls (k : Nat) (a0_0 : Int) (A0_1 : Option Addr) (c0_1 : Nat) (l0_1 : List Int) (a0_2 : Bool) (r : ByteArray) (w : World) (hr0_1 : Kd.C (Kd.int .i64) w A0_1 l0_1.length l0_1) (hc0_1 : l0_1.length ≤ c0_1) (h : impl_ChanText.f k a0_0 l0_1 a0_2 = some r) (hT : Tab.Laid w) :
  Calls Tryd.prog 14 #[.agg #[.int .i64 a0_0, .slice A0_1 l0_1.length c0_1, .bool a0_2]] w fun e w' => e = .returned (.string r) ∧ Below w.heap.size w w' := by
 have hu33 := Tryd.underlying33
 have HR0_1 := aM_ hr0_1
 have HC0_1 := aM_ hc0_1
 clear hr0_1 hc0_1
 have HB := aM_ (Below.refl w.heap.size w)
 have H : ((impl_ChanOk.f a0_0 l0_1 a0_2).bind fun t452 => (if t452 = true then ((impl_numbersText.f k l0_1).bind fun t453 => (if 1 + t453.size ≤ 9223372036854775807 then (if ((⟨#[91]⟩ : ByteArray) ++ t453).size + 1 ≤ 9223372036854775807 then ((impl_digits.f (wrap64 (a0_0 - (l0_1.length : Int)))).bind fun t454 => (if (((⟨#[91]⟩ : ByteArray) ++ t453) ++ (⟨#[93]⟩ : ByteArray)).size + t454.size ≤ 9223372036854775807 then (if a0_2 = true then (if ((((⟨#[91]⟩ : ByteArray) ++ t453) ++ (⟨#[93]⟩ : ByteArray)) ++ t454).size + 1 ≤ 9223372036854775807 then (some (((((⟨#[91]⟩ : ByteArray) ++ t453) ++ (⟨#[93]⟩ : ByteArray)) ++ t454) ++ (⟨#[33]⟩ : ByteArray))) else (none)) else (some ((((⟨#[91]⟩ : ByteArray) ++ t453) ++ (⟨#[93]⟩ : ByteArray)) ++ t454))) else (none))) else (none)) else (none))) else (some (⟨#[]⟩ : ByteArray)))) = some r := h
 clear h
 replace H := Option.bind_eq_some_iff.mp H
 obtain ⟨t452, A20, H⟩ := H
 replace H : (if t452 = true then ((impl_numbersText.f k l0_1).bind fun t453 => (if 1 + t453.size ≤ 9223372036854775807 then (if ((⟨#[91]⟩ : ByteArray) ++ t453).size + 1 ≤ 9223372036854775807 then ((impl_digits.f (wrap64 (a0_0 - (l0_1.length : Int)))).bind fun t454 => (if (((⟨#[91]⟩ : ByteArray) ++ t453) ++ (⟨#[93]⟩ : ByteArray)).size + t454.size ≤ 9223372036854775807 then (if a0_2 = true then (if ((((⟨#[91]⟩ : ByteArray) ++ t453) ++ (⟨#[93]⟩ : ByteArray)) ++ t454).size + 1 ≤ 9223372036854775807 then (some (((((⟨#[91]⟩ : ByteArray) ++ t453) ++ (⟨#[93]⟩ : ByteArray)) ++ t454) ++ (⟨#[33]⟩ : ByteArray))) else (none)) else (some ((((⟨#[91]⟩ : ByteArray) ++ t453) ++ (⟨#[93]⟩ : ByteArray)) ++ t454))) else (none))) else (none)) else (none))) else (some (⟨#[]⟩ : ByteArray))) = some r := H
 have A2 := aM_ A20
 clear A20
 by_cases c3 : t452 = true
 ·subst c3
  have H1 : ((impl_numbersText.f k l0_1).bind fun t453 => (if 1 + t453.size ≤ 9223372036854775807 then (if ((⟨#[91]⟩ : ByteArray) ++ t453).size + 1 ≤ 9223372036854775807 then ((impl_digits.f (wrap64 (a0_0 - (l0_1.length : Int)))).bind fun t454 => (if (((⟨#[91]⟩ : ByteArray) ++ t453) ++ (⟨#[93]⟩ : ByteArray)).size + t454.size ≤ 9223372036854775807 then (if a0_2 = true then (if ((((⟨#[91]⟩ : ByteArray) ++ t453) ++ (⟨#[93]⟩ : ByteArray)) ++ t454).size + 1 ≤ 9223372036854775807 then (some (((((⟨#[91]⟩ : ByteArray) ++ t453) ++ (⟨#[93]⟩ : ByteArray)) ++ t454) ++ (⟨#[33]⟩ : ByteArray))) else (none)) else (some ((((⟨#[91]⟩ : ByteArray) ++ t453) ++ (⟨#[93]⟩ : ByteArray)) ++ t454))) else (none))) else (none)) else (none))) = some r := by rw [if_pos rfl] at H; exact H
  clear H
  have H := H1
  clear H1
  replace H := Option.bind_eq_some_iff.mp H
  obtain ⟨t453, A40, H⟩ := H
  replace H : (if 1 + t453.size ≤ 9223372036854775807 then (if ((⟨#[91]⟩ : ByteArray) ++ t453).size + 1 ≤ 9223372036854775807 then ((impl_digits.f (wrap64 (a0_0 - (l0_1.length : Int)))).bind fun t454 => (if (((⟨#[91]⟩ : ByteArray) ++ t453) ++ (⟨#[93]⟩ : ByteArray)).size + t454.size ≤ 9223372036854775807 then (if a0_2 = true then (if ((((⟨#[91]⟩ : ByteArray) ++ t453) ++ (⟨#[93]⟩ : ByteArray)) ++ t454).size + 1 ≤ 9223372036854775807 then (some (((((⟨#[91]⟩ : ByteArray) ++ t453) ++ (⟨#[93]⟩ : ByteArray)) ++ t454) ++ (⟨#[33]⟩ : ByteArray))) else (none)) else (some ((((⟨#[91]⟩ : ByteArray) ++ t453) ++ (⟨#[93]⟩ : ByteArray)) ++ t454))) else (none))) else (none)) else (none)) = some r := H
  have A4 := aM_ A40
  clear A40
  by_cases c5 : 1 + t453.size ≤ 9223372036854775807
  ·rw [if_pos c5] at H
   have c5b0 := eq_true c5
   have c5b1 : decide (1 + t453.size ≤ 9223372036854775807) = true := decide_eq_true c5
   try have c5b2 : (9223372036854775807 < 1 + t453.size) = False := eq_false (Nat.not_lt.2 c5)
   by_cases c6 : ((⟨#[91]⟩ : ByteArray) ++ t453).size + 1 ≤ 9223372036854775807
   ·rw [if_pos c6] at H
    have c6b0 := eq_true c6
    have c6b1 : decide (((⟨#[91]⟩ : ByteArray) ++ t453).size + 1 ≤ 9223372036854775807) = true := decide_eq_true c6
    (try (have c6n := c6; simp only [ByteArray.size_append, Tab.sz_mk, List.size_toArray, List.length_cons, List.length_nil, Nat.zero_add, Nat.reduceAdd] at c6n; have c6b4 := eq_true c6n; have c6b5 := eq_false (Nat.not_lt.2 c6n)))
    try have c6b2 : (9223372036854775807 < ((⟨#[91]⟩ : ByteArray) ++ t453).size + 1) = False := eq_false (Nat.not_lt.2 c6)
    replace H := Option.bind_eq_some_iff.mp H
    obtain ⟨t454, A70, H⟩ := H
    replace H : (if (((⟨#[91]⟩ : ByteArray) ++ t453) ++ (⟨#[93]⟩ : ByteArray)).size + t454.size ≤ 9223372036854775807 then (if a0_2 = true then (if ((((⟨#[91]⟩ : ByteArray) ++ t453) ++ (⟨#[93]⟩ : ByteArray)) ++ t454).size + 1 ≤ 9223372036854775807 then (some (((((⟨#[91]⟩ : ByteArray) ++ t453) ++ (⟨#[93]⟩ : ByteArray)) ++ t454) ++ (⟨#[33]⟩ : ByteArray))) else (none)) else (some ((((⟨#[91]⟩ : ByteArray) ++ t453) ++ (⟨#[93]⟩ : ByteArray)) ++ t454))) else (none)) = some r := H
    have A7 := aM_ A70
    clear A70
    by_cases c8 : (((⟨#[91]⟩ : ByteArray) ++ t453) ++ (⟨#[93]⟩ : ByteArray)).size + t454.size ≤ 9223372036854775807
    ·rw [if_pos c8] at H
     have c8b0 := eq_true c8
     have c8b1 : decide ((((⟨#[91]⟩ : ByteArray) ++ t453) ++ (⟨#[93]⟩ : ByteArray)).size + t454.size ≤ 9223372036854775807) = true := decide_eq_true c8
     (try (have c8n := c8; simp only [ByteArray.size_append, Tab.sz_mk, List.size_toArray, List.length_cons, List.length_nil, Nat.zero_add, Nat.reduceAdd] at c8n; have c8b4 := eq_true c8n; have c8b5 := eq_false (Nat.not_lt.2 c8n)))
     try have c8b2 : (9223372036854775807 < (((⟨#[91]⟩ : ByteArray) ++ t453) ++ (⟨#[93]⟩ : ByteArray)).size + t454.size) = False := eq_false (Nat.not_lt.2 c8)
     by_cases c9 : a0_2 = true
     ·subst c9
      have H1 : (if ((((⟨#[91]⟩ : ByteArray) ++ t453) ++ (⟨#[93]⟩ : ByteArray)) ++ t454).size + 1 ≤ 9223372036854775807 then (some (((((⟨#[91]⟩ : ByteArray) ++ t453) ++ (⟨#[93]⟩ : ByteArray)) ++ t454) ++ (⟨#[33]⟩ : ByteArray))) else (none)) = some r := by rw [if_pos rfl] at H; exact H
      clear H
      have H := H1
      clear H1
      by_cases c10 : ((((⟨#[91]⟩ : ByteArray) ++ t453) ++ (⟨#[93]⟩ : ByteArray)) ++ t454).size + 1 ≤ 9223372036854775807
      ·rw [if_pos c10] at H
       have c10b0 := eq_true c10
       have c10b1 : decide (((((⟨#[91]⟩ : ByteArray) ++ t453) ++ (⟨#[93]⟩ : ByteArray)) ++ t454).size + 1 ≤ 9223372036854775807) = true := decide_eq_true c10
       (try (have c10n := c10; simp only [ByteArray.size_append, Tab.sz_mk, List.size_toArray, List.length_cons, List.length_nil, Nat.zero_add, Nat.reduceAdd] at c10n; have c10b4 := eq_true c10n; have c10b5 := eq_false (Nat.not_lt.2 c10n)))
       try have c10b2 : (9223372036854775807 < ((((⟨#[91]⟩ : ByteArray) ++ t453) ++ (⟨#[93]⟩ : ByteArray)) ++ t454).size + 1) = False := eq_false (Nat.not_lt.2 c10)
       obtain rfl := Option.some.inj H
       go_enter Tryd.func14, Tryd.ntmps14
       try go_wp2_with (first | ((with_reducible refine gate_dst (N := 1) rfl ?_); refine bX_ 1 (cs := #[.int .i64 a0_0, .slice A0_1 l0_1.length c0_1, .bool true]) (t := 33) ?_; intro gb451 hg w11 hbox hb; have n0 := aM_ (sT_ HB.out hb); have n1 := aM_ (hbox); have n2 := aM_ (sZ_ hg HB.out); have n3 := aM_ (sZ_ hg HB.out); clear HB; have HB := n0; have BK451 := n1; have GW451 := n2; have GE451 := n3; clear n0 n1 n2 n3; clear hb hbox hg; obtain ⟨hcz12_0, hcz12_1, hcz12_2, hfz12_0, hfz12_1, hfz12_2⟩ := bR3_ BK451.out) | ((with_reducible refine gate_callee (f := 20) rfl ?_); refine gL_ (some 5) Tryd.func20 #[.agg #[.int .i64 a0_0, .slice A0_1 l0_1.length c0_1, .bool true]] ?_; (with_reducible refine (impl_ChanOk.calls a0_0 _ _ l0_1 true true _ ?side1 ?side2 A2.out).mono ?_); (case side1 => exact cS_ (Kd.C_below HR0_1.out HB.out)); (case side2 => exact HC0_1.out); rintro e w13 ⟨rfl, hb⟩; refine ⟨_, rfl, ?_⟩; have n0 := aM_ (nB_ BK451.out hb); have n1 := aM_ (sT_ HB.out hb); clear BK451; clear HB; have BK451 := n0; have HB := n1; clear n0 n1))
       (all_goals try (exfalso; have e1_ : (⟨#[32]⟩ : ByteArray).size = 1 := rfl; have e2_ : (⟨#[10]⟩ : ByteArray).size = 1 := rfl; simp only [ByteArray.size_append] at c8; omega))
       (all_goals try (exfalso; have e1_ : (⟨#[32]⟩ : ByteArray).size = 1 := rfl; have e2_ : (⟨#[10]⟩ : ByteArray).size = 1 := rfl; simp only [ByteArray.size_append] at c10; omega))
       have n0 := aM_ (blk_drew BK451.out)
       have n1 := aM_ (below_drew1 HB.out)
       clear BK451
       clear HB
       have BK451 := n0
       have HB := n1
       clear n0 n1
       refine start_ (n := 14) (S := fun w' => w'.cell? ⟨gb451, 0, none⟩ = some (.int .i64 a0_0) ∧ w'.cell? ⟨gb451, 1, none⟩ = some (.slice A0_1 l0_1.length c0_1) ∧ w'.cell? ⟨gb451, 2, none⟩ = some (.bool true)) (ds := []) (mk_ 14 0) (by kernel_rfl) rfl rfl (bC3_ BK451.out) (fun hHeld => ?_); refine with_tabW impl_ChanText.tab3 impl_ChanText.bits3 (fun HT_ HW_ => ?_)
       generalize w13.drew = w14 at BK451 HB hHeld ⊢
       refine pU_ 0 (some 7) (mk_ 14 1) ?_
       refine pU_ 5 (some 12) (mk_ 14 33) ?_
       refine pU_ 7 (some 14) (mk_ 14 161) ?_
       refine tK3_ 1 (some 8) (mk_ 14 163) ?_
       refine tK3_ 6 (some 13) (mk_ 14 227) ?_
       refine tK3_ 8 (some 15) (mk_ 14 483) ?_
       refine pU_ 9 (some 16) (mk_ 14 995) ?_
       refine pU_ 10 (some 17) (mk_ 14 2019) ?_
       refine oN_ 2 (some 9) (mk_ 14 2023) (fun K hK => ?_)
       refine gO_ Tryd.func44 #[.slice A0_1 l0_1.length c0_1] ?_
       with_reducible refine (impl_numbersText.calls k _ _ l0_1 t453 _ ?side1 ?side2 A4.out ?sT).mono ?_
       (case sT => exact TabL_ hT HB.out)
       (case side1 => exact cS_ (Kd.C_below HR0_1.out HB.out))
       (case side2 => exact HC0_1.out)
       rintro e w15 ⟨rfl, hb⟩
       refine ⟨_, rfl, ?_⟩
       have n0 := aM_ (nB_ BK451.out hb)
       have n1 := aM_ (sT_ HB.out hb)
       clear BK451
       clear HB
       have BK451 := n0
       have HB := n1
       clear n0 n1
       (try clear hb)
       (try clear hb2)
       (try clear hk)
       (try clear hi)
       refine hK.out _ _ (bC3_ BK451.out) (fun hHeld => ?_)
       clear hK K
       refine norm_ (a' := ?_) ?_ ?_
       rotate_left
       ·show Act.put _ (some 9) _ = _
        simp only [pt_, pn_, sI_, s0_, s1_, i64_w, i32_w]
        rfl
       refine pU_ 3 (some 10) (mk_ 14 2031) ?_
       refine pU_ 4 (some 11) (mk_ 14 2047) ?_
       refine oN_ 11 (some 18) (mk_ 14 4095) (fun K hK => ?_)
       refine gO_ Tryd.func40 #[.int .i64 (wrap64 (a0_0 - (l0_1.length : Int)))] ?_
       with_reducible refine (impl_digits.calls (wrap64 (a0_0 - (l0_1.length : Int))) t454 _ A7.out ?sT).mono ?_
       (case sT => exact TabL_ hT HB.out)
       rintro e w16 ⟨rfl, hb⟩
       refine ⟨_, rfl, ?_⟩
       have n0 := aM_ (nB_ BK451.out hb)
       have n1 := aM_ (sT_ HB.out hb)
       clear BK451
       clear HB
       have BK451 := n0
       have HB := n1
       clear n0 n1
       (try clear hb)
       (try clear hb2)
       (try clear hk)
       (try clear hi)
       refine hK.out _ _ (bC3_ BK451.out) (fun hHeld => ?_)
       clear hK K
       refine norm_ (a' := ?_) ?_ ?_
       rotate_left
       ·show Act.put _ (some 18) _ = _
        simp only [pt_, pn_, sI_, s0_, s1_, i64_w, i32_w]
        rfl
       refine pU_ 12 (some 19) (mk_ 14 8191) ?_
       refine pU_ 13 (some 3) (mk_ 14 16383) ?_
       refine done_ (done_of HT_.out (by kernel_rfl)) ?_
       obtain ⟨hcz17_0, hcz17_1, hcz17_2, hfz17_0, hfz17_1, hfz17_2⟩ := bR3_ BK451.out
       try go_wp2
       go_ret
       exact fI_ HB.out
      ·rw [if_neg c10] at H
       exact absurd H (by simp)
     ·replace c9 := Bool.eq_false_iff.mpr c9
      subst c9
      have H1 : (some ((((⟨#[91]⟩ : ByteArray) ++ t453) ++ (⟨#[93]⟩ : ByteArray)) ++ t454)) = some r := by rw [if_neg (show ¬ (false = true) by decide)] at H; exact H
      clear H
      have H := H1
      clear H1
      obtain rfl := Option.some.inj H
      go_enter Tryd.func14, Tryd.ntmps14
      try go_wp2_with (first | ((with_reducible refine gate_dst (N := 1) rfl ?_); refine bX_ 1 (cs := #[.int .i64 a0_0, .slice A0_1 l0_1.length c0_1, .bool false]) (t := 33) ?_; intro gb451 hg w18 hbox hb; have n0 := aM_ (sT_ HB.out hb); have n1 := aM_ (hbox); have n2 := aM_ (sZ_ hg HB.out); have n3 := aM_ (sZ_ hg HB.out); clear HB; have HB := n0; have BK451 := n1; have GW451 := n2; have GE451 := n3; clear n0 n1 n2 n3; clear hb hbox hg; obtain ⟨hcz19_0, hcz19_1, hcz19_2, hfz19_0, hfz19_1, hfz19_2⟩ := bR3_ BK451.out) | ((with_reducible refine gate_callee (f := 20) rfl ?_); refine gL_ (some 5) Tryd.func20 #[.agg #[.int .i64 a0_0, .slice A0_1 l0_1.length c0_1, .bool false]] ?_; (with_reducible refine (impl_ChanOk.calls a0_0 _ _ l0_1 false true _ ?side1 ?side2 A2.out).mono ?_); (case side1 => exact cS_ (Kd.C_below HR0_1.out HB.out)); (case side2 => exact HC0_1.out); rintro e w20 ⟨rfl, hb⟩; refine ⟨_, rfl, ?_⟩; have n0 := aM_ (nB_ BK451.out hb); have n1 := aM_ (sT_ HB.out hb); clear BK451; clear HB; have BK451 := n0; have HB := n1; clear n0 n1))
      (all_goals try (exfalso; have e1_ : (⟨#[32]⟩ : ByteArray).size = 1 := rfl; have e2_ : (⟨#[10]⟩ : ByteArray).size = 1 := rfl; simp only [ByteArray.size_append] at c6; omega))
      (all_goals try (exfalso; have e1_ : (⟨#[32]⟩ : ByteArray).size = 1 := rfl; have e2_ : (⟨#[10]⟩ : ByteArray).size = 1 := rfl; simp only [ByteArray.size_append] at c8; omega))
      have n0 := aM_ (blk_drew BK451.out)
      have n1 := aM_ (below_drew1 HB.out)
      clear BK451
      clear HB
      have BK451 := n0
      have HB := n1
      clear n0 n1
      refine start_ (n := 14) (S := fun w' => w'.cell? ⟨gb451, 0, none⟩ = some (.int .i64 a0_0) ∧ w'.cell? ⟨gb451, 1, none⟩ = some (.slice A0_1 l0_1.length c0_1) ∧ w'.cell? ⟨gb451, 2, none⟩ = some (.bool false)) (ds := []) (mk_ 14 0) (by kernel_rfl) rfl rfl (bC3_ BK451.out) (fun hHeld => ?_); refine with_tabW impl_ChanText.tab3 impl_ChanText.bits3 (fun HT_ HW_ => ?_)
      generalize w20.drew = w21 at BK451 HB hHeld ⊢
      refine pU_ 0 (some 7) (mk_ 14 1) ?_
      refine pU_ 5 (some 12) (mk_ 14 33) ?_
      refine pU_ 7 (some 14) (mk_ 14 161) ?_
      refine tK3_ 1 (some 8) (mk_ 14 163) ?_
      refine tK3_ 6 (some 13) (mk_ 14 227) ?_
      refine tK3_ 8 (some 15) (mk_ 14 483) ?_
      refine pU_ 9 (some 16) (mk_ 14 995) ?_
      refine pU_ 10 (some 17) (mk_ 14 2019) ?_
      refine oN_ 2 (some 9) (mk_ 14 2023) (fun K hK => ?_)
      refine gO_ Tryd.func44 #[.slice A0_1 l0_1.length c0_1] ?_
      with_reducible refine (impl_numbersText.calls k _ _ l0_1 t453 _ ?side1 ?side2 A4.out ?sT).mono ?_
      (case sT => exact TabL_ hT HB.out)
      (case side1 => exact cS_ (Kd.C_below HR0_1.out HB.out))
      (case side2 => exact HC0_1.out)
      rintro e w22 ⟨rfl, hb⟩
      refine ⟨_, rfl, ?_⟩
      have n0 := aM_ (nB_ BK451.out hb)
      have n1 := aM_ (sT_ HB.out hb)
      clear BK451
      clear HB
      have BK451 := n0
      have HB := n1
      clear n0 n1
      (try clear hb)
      (try clear hb2)
      (try clear hk)
      (try clear hi)
      refine hK.out _ _ (bC3_ BK451.out) (fun hHeld => ?_)
      clear hK K
      refine norm_ (a' := ?_) ?_ ?_
      rotate_left
      ·show Act.put _ (some 9) _ = _
       simp only [pt_, pn_, sI_, s0_, s1_, i64_w, i32_w]
       rfl
      refine pU_ 3 (some 10) (mk_ 14 2031) ?_
      refine pU_ 4 (some 11) (mk_ 14 2047) ?_
      refine oN_ 11 (some 18) (mk_ 14 4095) (fun K hK => ?_)
      refine gO_ Tryd.func40 #[.int .i64 (wrap64 (a0_0 - (l0_1.length : Int)))] ?_
      with_reducible refine (impl_digits.calls (wrap64 (a0_0 - (l0_1.length : Int))) t454 _ A7.out ?sT).mono ?_
      (case sT => exact TabL_ hT HB.out)
      rintro e w23 ⟨rfl, hb⟩
      refine ⟨_, rfl, ?_⟩
      have n0 := aM_ (nB_ BK451.out hb)
      have n1 := aM_ (sT_ HB.out hb)
      clear BK451
      clear HB
      have BK451 := n0
      have HB := n1
      clear n0 n1
      (try clear hb)
      (try clear hb2)
      (try clear hk)
      (try clear hi)
      refine hK.out _ _ (bC3_ BK451.out) (fun hHeld => ?_)
      clear hK K
      refine norm_ (a' := ?_) ?_ ?_
      rotate_left
      ·show Act.put _ (some 18) _ = _
       simp only [pt_, pn_, sI_, s0_, s1_, i64_w, i32_w]
       rfl
      refine pU_ 12 (some 19) (mk_ 14 8191) ?_
      refine pU_ 13 (some 3) (mk_ 14 16383) ?_
      refine done_ (done_of HT_.out (by kernel_rfl)) ?_
      obtain ⟨hcz24_0, hcz24_1, hcz24_2, hfz24_0, hfz24_1, hfz24_2⟩ := bR3_ BK451.out
      try go_wp2
      go_ret
      exact fI_ HB.out
    ·rw [if_neg c8] at H
     exact absurd H (by simp)
   ·rw [if_neg c6] at H
    exact absurd H (by simp)
  ·rw [if_neg c5] at H
   exact absurd H (by simp)
 ·replace c3 := Bool.eq_false_iff.mpr c3
  subst c3
  have H1 : (some (⟨#[]⟩ : ByteArray)) = some r := by rw [if_neg (show ¬ (false = true) by decide)] at H; exact H
  clear H
  have H := H1
  clear H1
  obtain rfl := Option.some.inj H
  go_enter Tryd.func14, Tryd.ntmps14
  go_wp2_with (first | ((with_reducible refine gate_dst (N := 1) rfl ?_); refine bX_ 1 (cs := #[.int .i64 a0_0, .slice A0_1 l0_1.length c0_1, .bool a0_2]) (t := 33) ?_; intro gb451 hg w25 hbox hb; have n0 := aM_ (sT_ HB.out hb); have n1 := aM_ (hbox); have n2 := aM_ (sZ_ hg HB.out); have n3 := aM_ (sZ_ hg HB.out); clear HB; have HB := n0; have BK451 := n1; have GW451 := n2; have GE451 := n3; clear n0 n1 n2 n3; clear hb hbox hg; obtain ⟨hcz26_0, hcz26_1, hcz26_2, hfz26_0, hfz26_1, hfz26_2⟩ := bR3_ BK451.out) | ((with_reducible refine gate_callee (f := 20) rfl ?_); refine gL_ (some 5) Tryd.func20 #[.agg #[.int .i64 a0_0, .slice A0_1 l0_1.length c0_1, .bool a0_2]] ?_; (with_reducible refine (impl_ChanOk.calls a0_0 _ _ l0_1 a0_2 false _ ?side1 ?side2 A2.out).mono ?_); (case side1 => exact cS_ (Kd.C_below HR0_1.out HB.out)); (case side2 => exact HC0_1.out); rintro e w27 ⟨rfl, hb⟩; refine ⟨_, rfl, ?_⟩; have n0 := aM_ (nB_ BK451.out hb); have n1 := aM_ (sT_ HB.out hb); clear BK451; clear HB; have BK451 := n0; have HB := n1; clear n0 n1))
  go_ret
  exact fI_ HB.out
def spec_l1In.f (a0 : Int) (a1 : Int) (a2 : Int) : Option (Bool) := if a0 ≥ a1 then (some (decide (a0 ≤ a2))) else (some false)
set_option maxHeartbeats 8000000 in
set_option maxRecDepth 100000 in
theorem spec_l1In.calls (a0 : Int) (a1 : Int) (a2 : Int) (r : Bool) (w : World) (h : spec_l1In.f a0 a1 a2 = some r) :
  Calls Tryd.prog 86 #[.int .i64 a0, .int .i64 a1, .int .i64 a2] w fun e w' => e = .returned (.bool r) ∧ Drawn0 w w' := by
 have H : (if a0 ≥ a1 then (some (decide (a0 ≤ a2))) else (some false)) = some r := h
 clear h
 by_cases c4 : a0 ≥ a1
 ·rw [if_pos c4] at H
  have c4b0 : decide (a1 ≤ a0) = true := decide_eq_true c4
  clear c4
  obtain rfl := Option.some.inj H
  go_enter Tryd.func86, Tryd.ntmps86
  go_wp2
  go_ret
  exact ⟨by first | rfl | (simp; done) | (simp [*]; done), by repeat (first | exact Drawn0.refl _ | apply Drawn0.step)⟩
 ·rw [if_neg c4] at H
  have c4b0 : decide (a1 ≤ a0) = false := decide_eq_false c4
  clear c4
  obtain rfl := Option.some.inj H
  go_enter Tryd.func86, Tryd.ntmps86
  go_wp2
  go_ret
  exact ⟨by first | rfl | (simp; done) | (simp [*]; done), by repeat (first | exact Drawn0.refl _ | apply Drawn0.step)⟩
def spec_l7Reg.f (a0 : Int) : Option (Bool) := (spec_l1In.f a0 0 7).bind fun t455 => (some t455)
set_option maxHeartbeats 8000000 in
set_option maxRecDepth 100000 in
theorem spec_l7Reg.calls (a0 : Int) (r : Bool) (w : World) (h : spec_l7Reg.f a0 = some r) :
  Calls Tryd.prog 85 #[.int .i64 a0] w fun e w' => e = .returned (.bool r) ∧ Drawn0 w w' := by
 have H : ((spec_l1In.f a0 0 7).bind fun t455 => (some t455)) = some r := h
 clear h
 replace H := Option.bind_eq_some_iff.mp H
 obtain ⟨t455, A20, H⟩ := H
 replace H : (some t455) = some r := H
 have A2 := aM_ A20
 clear A20
 obtain rfl := Option.some.inj H
 go_enter Tryd.func85, Tryd.ntmps85
 go_wp2_with (first | ((with_reducible refine gate_callee (f := 86) rfl ?_); refine gL_ (some 4) Tryd.func86 #[.int .i64 a0, .int .i64 0, .int .i64 7] ?_; (with_reducible refine (spec_l1In.calls a0 0 7 t455 _ A2.out).mono ?_); rintro e w' ⟨rfl, ⟨nd, rfl⟩⟩; refine ⟨_, rfl, ?_⟩))
 go_ret
 exact ⟨by first | rfl | (simp; done) | (simp [*]; done), by repeat (first | exact Drawn0.refl _ | apply Drawn0.step)⟩
end Go.Proofs.YtdbobicbbfmepaaDoor.PFnTexts
