/- A part of the proof that the law FnInsText holds for every input: the words, functions and walks that its row needs, without a condition of their own. -/
import Derived.Test.YtkjfcmgpplapeaaDoorZFnInsTexta4
import Derived.Test.YtkjfcmgpplapeaaDoorZFnInsTexta5
import Derived.Test.YtkjfcmgpplapeaaDoorZFnInsTexta9
import Derived.Test.YtkjfcmgpplapeaaDoorZFnInsTexta10
import Derived.Test.YtkjfcmgpplapeaaDoorZFnInsTexts
namespace Go.Proofs.YtkjfcmgpplapeaaDoor.PFnInsText
open Go.RowKit Go.Proofs.YtkjfcmgpplapeaaDoorW.PrintWords Go.Proofs.YtkjfcmgpplapeaaDoorW.PrintLast Go.Proofs.YtkjfcmgpplapeaaDoorW.PrintMore
attribute [local go_sem] max2_int min2_int max_two min_two max_three min_three max_four min_four   -- for this text's walks alone
set_option linter.unusedVariables false
set_option linter.unusedSimpArgs false
def spec_l1Pick.f (s0_0 : List Int) (s0_1 : Int) (s0_2 : Int) (l1 : List ByteArray) : Option (ByteArray × Int × Int) := (spec_l1Below.f s0_0 s0_1 s0_2 (l1.length : Int)).bind fun bt417 => (if 0 ≤ bt417.1 then (if bt417.1 < (l1.length : Int) then (some (rdOf ByteArray.empty l1 bt417.1, bt417.2.1, bt417.2.2)) else (none)) else (none))
set_option maxHeartbeats 8000000 in
set_option maxRecDepth 100000 in
theorem spec_l1Pick.calls (g : Nat) (s0_0 : List Int) (s0_1 : Int) (s0_2 : Int) (A1 : Option Addr) (c1 : Nat) (l1 : List ByteArray) (r1 : ByteArray) (r2 : Int) (r3 : Int) (w0 w : World) (hI : IsS151 w0 w g s0_0 s0_1 s0_2) (hB : Below w0.heap.size w0 w) (hr1 : Kd.C Kd.string w A1 l1.length l1) (hc1 : l1.length ≤ c1) (hf1 : ∀ ad, A1 = some ad → 0 < l1.length → ad.block ≠ g) (h : spec_l1Pick.f s0_0 s0_1 s0_2 l1 = some (r1, r2, r3)) :
  Calls Tryd.prog 141 #[.pointer (some ⟨g, 0, none⟩), .slice A1 l1.length c1] w fun e w' => e = .returned (.string r1) ∧ IsS151 w0 w' g s0_0 r2 r3 ∧ Below w0.heap.size w0 w' ∧ KeepBut w w' g none := by
 have HR1 := aM_ hr1
 have HC1 := aM_ hc1
 clear hr1 hc1
 have HI0 := aM_ hI
 have HK := aM_ (KeepBut.refl w g none)
 have HL := aM_ hB.size
 clear hI
 have HW0 := aM_ hB.size
 have HB := aM_ hB
 clear hB
 have H : ((spec_l1Below.f s0_0 s0_1 s0_2 (l1.length : Int)).bind fun bt417 => (if 0 ≤ bt417.1 then (if bt417.1 < (l1.length : Int) then (some (rdOf ByteArray.empty l1 bt417.1, bt417.2.1, bt417.2.2)) else (none)) else (none))) = some (r1, r2, r3) := h
 clear h
 replace H := Option.bind_eq_some_iff.mp H
 obtain ⟨⟨t417, t418, t419⟩, A30, H⟩ := H
 replace H : (if 0 ≤ t417 then (if t417 < (l1.length : Int) then (some (rdOf ByteArray.empty l1 t417, t418, t419)) else (none)) else (none)) = some (r1, r2, r3) := H
 have A3 := aM_ A30
 clear A30
 by_cases c4 : 0 ≤ t417
 ·rw [if_pos c4] at H
  have c4b0 : decide (0 ≤ t417) = true := decide_eq_true c4
  clear c4
  by_cases c5 : t417 < (l1.length : Int)
  ·rw [if_pos c5] at H
   have c5b0 : decide (t417 < (l1.length : Int)) = true := decide_eq_true c5
   clear c5
   simp only [Option.some.injEq, Prod.mk.injEq] at H
   obtain ⟨rfl, rfl, rfl⟩ := H
   go_enter Tryd.func141, Tryd.ntmps141
   go_wp2_with (first | ((with_reducible refine gate_callee (f := 91) rfl ?_); refine gL_ (some 9) Tryd.func91 #[.pointer (some ⟨g, 0, none⟩), .int .i64 (l1.length : Int)] ?_; (with_reducible refine (spec_l1Below.calls g s0_0 s0_1 s0_2 (l1.length : Int) t417 t418 t419 w0 _ ?side1 ?side2 A3.out).mono ?_); (case side1 => repeat (first | (with_reducible first | exact HI0.out | apply IsS151.alloc | apply IsS151.drewN | apply IsS151.drew | apply IsS151.set_1 | apply IsS151.set_2) | exact HI0.out)); (case side2 => repeat (first | (with_reducible first | exact HB.out | apply hA_ | apply hN_ | apply hD_ | refine below_set ?_ (IsS151.ge HI0.out)) | exact HB.out)); rintro e w6 ⟨rfl, hi, hb, hk⟩; refine ⟨_, rfl, ?_⟩; have n0 := aM_ (KeepBut.trans (by repeat (first | (with_reducible first | exact HK.out | apply KeepBut.set_ | apply keep_drewN | apply keep_drew | apply keep_alloc) | exact HK.out)) hk (.inl rfl)); have n1 := aM_ (hb); have n2 := aM_ (hi); clear HK; clear HB; clear HI0; have HK := n0; have HB := n1; have HI0 := n2; clear n0 n1 n2; have p420 : 0 ≤ (t417 : Int) := of_decide_eq_true (by first | (with_reducible assumption) | assumption); have q420 : t417 < (l1.length : Int) := of_decide_eq_true (by first | (with_reducible assumption) | assumption); obtain ⟨ad420, e420, hx420_0⟩ := Kd.at_string HR1.out t417 p420 q420; cases e420; replace hx420_0 := keep_cell HK.out hx420_0 (by first | (rw [add_block]; exact hf1 _ rfl (by omega)) | exact hf1 _ rfl (by omega) | exact hf1 ad420 rfl (by omega)); replace p420 := eq_true p420; replace q420 := eq_true q420))
   go_ret
   exact ⟨by first | rfl | (simp [errW_none, errW_some] <;> rfl) | (simp [*, errW_none, errW_some] <;> rfl), by repeat (first | (with_reducible first | exact HI0.out | apply IsS151.alloc | apply IsS151.drewN | apply IsS151.drew | apply IsS151.set_1 | apply IsS151.set_2) | exact HI0.out), by repeat (first | (with_reducible first | exact HB.out | apply hA_ | apply hN_ | apply hD_ | refine below_set ?_ (IsS151.ge HI0.out)) | exact HB.out), by repeat (first | (with_reducible first | exact HK.out | apply KeepBut.set_ | apply keep_drewN | apply keep_drew | apply keep_alloc) | exact HK.out)⟩
  ·rw [if_neg c5] at H
   exact absurd H (by simp)
 ·rw [if_neg c4] at H
  exact absurd H (by simp)
def spec_l2Dent.f (s0_0 : List Int) (s0_1 : Int) (s0_2 : Int) (a1 : ByteArray) (l2 : List ByteArray) : Option (ByteArray × Int × Int) := (spec_l1Below.f s0_0 s0_1 s0_2 (wrap64 ((a1.size : Int) + 1))).bind fun bt421 => ((spec_l1Below.f s0_0 bt421.2.1 bt421.2.2 5).bind fun bt424 => (if bt424.1 = 0 then (if 0 ≤ bt421.1 then (if bt421.1 ≤ (a1.size : Int) then (some (a1.extract 0 (bt421.1 : Int).toNat, bt424.2.1, bt424.2.2)) else (none)) else (none)) else (if bt424.1 = 1 then (if 0 ≤ bt421.1 then (if bt421.1 ≤ (a1.size : Int) then ((spec_l1Pick.f s0_0 bt424.2.1 bt424.2.2 l2).bind fun bt427 => (if (a1.extract 0 (bt421.1 : Int).toNat).size + bt427.1.size ≤ 9223372036854775807 then (if ((a1.extract 0 (bt421.1 : Int).toNat) ++ bt427.1).size + (a1.extract (bt421.1 : Int).toNat a1.size).size ≤ 9223372036854775807 then (some (((a1.extract 0 (bt421.1 : Int).toNat) ++ bt427.1) ++ (a1.extract (bt421.1 : Int).toNat a1.size), bt427.2.1, bt427.2.2)) else (none)) else (none))) else (none)) else (none)) else (some (a1, bt424.2.1, bt424.2.2)))))
def spec_l2Dent.T6 : Bool × List (List Nat × List Nat) := (true, [([], []), ([], []), ([0, 1], [0, 1]), ([], []), ([], []), ([3, 4], [3, 4]), ([2, 5], [2, 5]), ([], []), ([], []), ([7, 8], [7, 8]), ([6, 9], [6, 9]), ([10, 5, 0, 1, 2, 3, 4, 5, 6, 7, 8, 9, 10], [10])])
def spec_l2Dent.B6 : List Nat := [0, 0, 3, 0, 0, 24, 63, 0, 0, 384, 1023, 2047]
theorem spec_l2Dent.tab6 : rtab .any (opsOf Tryd.f105 6) = spec_l2Dent.T6 := by kernel_rfl
theorem spec_l2Dent.bits6 : waitsOk spec_l2Dent.T6.2 spec_l2Dent.B6 = true := by kernel_rfl
set_option maxHeartbeats 8000000 in
set_option maxRecDepth 100000 in
theorem spec_l2Dent.calls (g : Nat) (s0_0 : List Int) (s0_1 : Int) (s0_2 : Int) (a1 : ByteArray) (A2 : Option Addr) (c2 : Nat) (l2 : List ByteArray) (r1 : ByteArray) (r2 : Int) (r3 : Int) (w0 w : World) (hI : IsS151 w0 w g s0_0 s0_1 s0_2) (hB : Below w0.heap.size w0 w) (hr2 : Kd.C Kd.string w A2 l2.length l2) (hc2 : l2.length ≤ c2) (hf2 : ∀ ad, A2 = some ad → 0 < l2.length → ad.block ≠ g) (h : spec_l2Dent.f s0_0 s0_1 s0_2 a1 l2 = some (r1, r2, r3)) :
  Calls Tryd.prog 105 #[.pointer (some ⟨g, 0, none⟩), .string a1, .slice A2 l2.length c2] w fun e w' => e = .returned (.string r1) ∧ IsS151 w0 w' g s0_0 r2 r3 ∧ Below w0.heap.size w0 w' ∧ KeepBut w w' g none := by
 have HR2 := aM_ hr2
 have HC2 := aM_ hc2
 clear hr2 hc2
 have HI0 := aM_ hI
 have HK := aM_ (KeepBut.refl w g none)
 have HL := aM_ hB.size
 clear hI
 have HW0 := aM_ hB.size
 have HB := aM_ hB
 clear hB
 have H : ((spec_l1Below.f s0_0 s0_1 s0_2 (wrap64 ((a1.size : Int) + 1))).bind fun bt421 => ((spec_l1Below.f s0_0 bt421.2.1 bt421.2.2 5).bind fun bt424 => (if bt424.1 = 0 then (if 0 ≤ bt421.1 then (if bt421.1 ≤ (a1.size : Int) then (some (a1.extract 0 (bt421.1 : Int).toNat, bt424.2.1, bt424.2.2)) else (none)) else (none)) else (if bt424.1 = 1 then (if 0 ≤ bt421.1 then (if bt421.1 ≤ (a1.size : Int) then ((spec_l1Pick.f s0_0 bt424.2.1 bt424.2.2 l2).bind fun bt427 => (if (a1.extract 0 (bt421.1 : Int).toNat).size + bt427.1.size ≤ 9223372036854775807 then (if ((a1.extract 0 (bt421.1 : Int).toNat) ++ bt427.1).size + (a1.extract (bt421.1 : Int).toNat a1.size).size ≤ 9223372036854775807 then (some (((a1.extract 0 (bt421.1 : Int).toNat) ++ bt427.1) ++ (a1.extract (bt421.1 : Int).toNat a1.size), bt427.2.1, bt427.2.2)) else (none)) else (none))) else (none)) else (none)) else (some (a1, bt424.2.1, bt424.2.2)))))) = some (r1, r2, r3) := h
 clear h
 replace H := Option.bind_eq_some_iff.mp H
 obtain ⟨⟨t421, t422, t423⟩, A40, H⟩ := H
 replace H : ((spec_l1Below.f s0_0 t422 t423 5).bind fun bt424 => (if bt424.1 = 0 then (if 0 ≤ t421 then (if t421 ≤ (a1.size : Int) then (some (a1.extract 0 (t421 : Int).toNat, bt424.2.1, bt424.2.2)) else (none)) else (none)) else (if bt424.1 = 1 then (if 0 ≤ t421 then (if t421 ≤ (a1.size : Int) then ((spec_l1Pick.f s0_0 bt424.2.1 bt424.2.2 l2).bind fun bt427 => (if (a1.extract 0 (t421 : Int).toNat).size + bt427.1.size ≤ 9223372036854775807 then (if ((a1.extract 0 (t421 : Int).toNat) ++ bt427.1).size + (a1.extract (t421 : Int).toNat a1.size).size ≤ 9223372036854775807 then (some (((a1.extract 0 (t421 : Int).toNat) ++ bt427.1) ++ (a1.extract (t421 : Int).toNat a1.size), bt427.2.1, bt427.2.2)) else (none)) else (none))) else (none)) else (none)) else (some (a1, bt424.2.1, bt424.2.2))))) = some (r1, r2, r3) := H
 have A4 := aM_ A40
 clear A40
 replace H := Option.bind_eq_some_iff.mp H
 obtain ⟨⟨t424, t425, t426⟩, A50, H⟩ := H
 replace H : (if t424 = 0 then (if 0 ≤ t421 then (if t421 ≤ (a1.size : Int) then (some (a1.extract 0 (t421 : Int).toNat, t425, t426)) else (none)) else (none)) else (if t424 = 1 then (if 0 ≤ t421 then (if t421 ≤ (a1.size : Int) then ((spec_l1Pick.f s0_0 t425 t426 l2).bind fun bt427 => (if (a1.extract 0 (t421 : Int).toNat).size + bt427.1.size ≤ 9223372036854775807 then (if ((a1.extract 0 (t421 : Int).toNat) ++ bt427.1).size + (a1.extract (t421 : Int).toNat a1.size).size ≤ 9223372036854775807 then (some (((a1.extract 0 (t421 : Int).toNat) ++ bt427.1) ++ (a1.extract (t421 : Int).toNat a1.size), bt427.2.1, bt427.2.2)) else (none)) else (none))) else (none)) else (none)) else (some (a1, t425, t426)))) = some (r1, r2, r3) := H
 have A5 := aM_ A50
 clear A50
 by_cases c6 : t424 = 0
 ·rw [if_pos c6] at H
  have c6b0 : (t424 == 0) = true := beq_iff_eq.mpr c6
  have c6b1 : (t424 != 0) = false := bne_eq_false_iff_eq.mpr c6
  clear c6
  by_cases c7 : 0 ≤ t421
  ·rw [if_pos c7] at H
   have c7b0 := eq_true c7
   have c7b1 : decide (0 ≤ t421) = true := decide_eq_true c7
   clear c7
   by_cases c8 : t421 ≤ (a1.size : Int)
   ·rw [if_pos c8] at H
    have c8b0 := eq_true c8
    have c8b1 : decide (t421 ≤ (a1.size : Int)) = true := decide_eq_true c8
    clear c8
    simp only [Option.some.injEq, Prod.mk.injEq] at H
    obtain ⟨rfl, rfl, rfl⟩ := H
    go_enter Tryd.func105, Tryd.ntmps105
    go_wp2_with (first | ((with_reducible refine gate_callee (f := 91) rfl ?_); refine gL_ (some 12) Tryd.func91 #[.pointer (some ⟨g, 0, none⟩), .int .i64 (wrap64 ((a1.size : Int) + 1))] ?_; (with_reducible refine (spec_l1Below.calls g s0_0 s0_1 s0_2 (wrap64 ((a1.size : Int) + 1)) t421 t422 t423 w0 _ ?side1 ?side2 A4.out).mono ?_); (case side1 => repeat (first | (with_reducible first | exact HI0.out | apply IsS151.alloc | apply IsS151.drewN | apply IsS151.drew | apply IsS151.set_1 | apply IsS151.set_2) | exact HI0.out)); (case side2 => repeat (first | (with_reducible first | exact HB.out | apply hA_ | apply hN_ | apply hD_ | refine below_set ?_ (IsS151.ge HI0.out)) | exact HB.out)); rintro e w9 ⟨rfl, hi, hb, hk⟩; refine ⟨_, rfl, ?_⟩; have n0 := aM_ (KeepBut.trans (by repeat (first | (with_reducible first | exact HK.out | apply KeepBut.set_ | apply keep_drewN | apply keep_drew | apply keep_alloc) | exact HK.out)) hk (.inl rfl)); have n1 := aM_ (hb); have n2 := aM_ (hi); clear HK; clear HB; clear HI0; have HK := n0; have HB := n1; have HI0 := n2; clear n0 n1 n2) | ((with_reducible refine gate_callee (f := 91) rfl ?_); refine gL_ (some 14) Tryd.func91 #[.pointer (some ⟨g, 0, none⟩), .int .i64 5] ?_; (with_reducible refine (spec_l1Below.calls g s0_0 t422 t423 5 t424 t425 t426 w0 _ ?side1 ?side2 A5.out).mono ?_); (case side1 => repeat (first | (with_reducible first | exact HI0.out | apply IsS151.alloc | apply IsS151.drewN | apply IsS151.drew | apply IsS151.set_1 | apply IsS151.set_2) | exact HI0.out)); (case side2 => repeat (first | (with_reducible first | exact HB.out | apply hA_ | apply hN_ | apply hD_ | refine below_set ?_ (IsS151.ge HI0.out)) | exact HB.out)); rintro e w10 ⟨rfl, hi, hb, hk⟩; refine ⟨_, rfl, ?_⟩; have n0 := aM_ (KeepBut.trans (by repeat (first | (with_reducible first | exact HK.out | apply KeepBut.set_ | apply keep_drewN | apply keep_drew | apply keep_alloc) | exact HK.out)) hk (.inl rfl)); have n1 := aM_ (hb); have n2 := aM_ (hi); clear HK; clear HB; clear HI0; have HK := n0; have HB := n1; have HI0 := n2; clear n0 n1 n2))
    go_ret
    exact ⟨by first | rfl | (simp [errW_none, errW_some] <;> rfl) | (simp [*, errW_none, errW_some] <;> rfl), by repeat (first | (with_reducible first | exact HI0.out | apply IsS151.alloc | apply IsS151.drewN | apply IsS151.drew | apply IsS151.set_1 | apply IsS151.set_2) | exact HI0.out), by repeat (first | (with_reducible first | exact HB.out | apply hA_ | apply hN_ | apply hD_ | refine below_set ?_ (IsS151.ge HI0.out)) | exact HB.out), by repeat (first | (with_reducible first | exact HK.out | apply KeepBut.set_ | apply keep_drewN | apply keep_drew | apply keep_alloc) | exact HK.out)⟩
   ·rw [if_neg c8] at H
    exact absurd H (by simp)
  ·rw [if_neg c7] at H
   exact absurd H (by simp)
 ·rw [if_neg c6] at H
  have c6b0 : (t424 == 0) = false := beq_eq_false_iff_ne.mpr c6
  have c6b1 : (t424 != 0) = true := bne_iff_ne.mpr c6
  by_cases c11 : t424 = 1
  ·rw [if_pos c11] at H
   have c11b0 : (t424 == 1) = true := beq_iff_eq.mpr c11
   have c11b1 : (t424 != 1) = false := bne_eq_false_iff_eq.mpr c11
   clear c11
   by_cases c12 : 0 ≤ t421
   ·rw [if_pos c12] at H
    have c12b0 := eq_true c12
    have c12b1 : decide (0 ≤ t421) = true := decide_eq_true c12
    clear c12
    by_cases c13 : t421 ≤ (a1.size : Int)
    ·rw [if_pos c13] at H
     have c13b0 := eq_true c13
     have c13b1 : decide (t421 ≤ (a1.size : Int)) = true := decide_eq_true c13
     clear c13
     replace H := Option.bind_eq_some_iff.mp H
     obtain ⟨⟨t427, t428, t429⟩, A140, H⟩ := H
     replace H : (if (a1.extract 0 (t421 : Int).toNat).size + t427.size ≤ 9223372036854775807 then (if ((a1.extract 0 (t421 : Int).toNat) ++ t427).size + (a1.extract (t421 : Int).toNat a1.size).size ≤ 9223372036854775807 then (some (((a1.extract 0 (t421 : Int).toNat) ++ t427) ++ (a1.extract (t421 : Int).toNat a1.size), t428, t429)) else (none)) else (none)) = some (r1, r2, r3) := H
     have A14 := aM_ A140
     clear A140
     by_cases c15 : (a1.extract 0 (t421 : Int).toNat).size + t427.size ≤ 9223372036854775807
     ·rw [if_pos c15] at H
      have c15b0 := eq_true c15
      have c15b1 : decide ((a1.extract 0 (t421 : Int).toNat).size + t427.size ≤ 9223372036854775807) = true := decide_eq_true c15
      try have c15b2 : (9223372036854775807 < (a1.extract 0 (t421 : Int).toNat).size + t427.size) = False := eq_false (Nat.not_lt.2 c15)
      try have c15x : (9223372036854775807 < (t421 : Int).toNat + t427.size) = False := eq_false (by have h_ := c15; rw [ByteArray.size_extract] at h_; have h2_ : t421 ≤ (a1.size : Int) := (by first | assumption | exact of_eq_true (by assumption) | exact of_decide_eq_true (by assumption)); omega)
      have c16b0 := eq_true (of_decide_eq_true (by first | (with_reducible assumption) | assumption) : 0 ≤ t421)
      have c17b0 := eq_true (of_decide_eq_true (by first | (with_reducible assumption) | assumption) : t421 ≤ (a1.size : Int))
      by_cases c18 : ((a1.extract 0 (t421 : Int).toNat) ++ t427).size + (a1.extract (t421 : Int).toNat a1.size).size ≤ 9223372036854775807
      ·rw [if_pos c18] at H
       have c18b0 := eq_true c18
       have c18b1 : decide (((a1.extract 0 (t421 : Int).toNat) ++ t427).size + (a1.extract (t421 : Int).toNat a1.size).size ≤ 9223372036854775807) = true := decide_eq_true c18
       (try (have c18n := c18; simp only [ByteArray.size_append, Tab.sz_mk, List.size_toArray, List.length_cons, List.length_nil, Nat.zero_add, Nat.reduceAdd] at c18n; have c18b4 := eq_true c18n; have c18b5 := eq_false (Nat.not_lt.2 c18n)))
       try have c18b2 : (9223372036854775807 < ((a1.extract 0 (t421 : Int).toNat) ++ t427).size + (a1.extract (t421 : Int).toNat a1.size).size) = False := eq_false (Nat.not_lt.2 c18)
       try have c18x : (9223372036854775807 < (t421 : Int).toNat + t427.size + (a1.size - (t421 : Int).toNat)) = False := eq_false (by have h_ := c18; rw [ByteArray.size_append, ByteArray.size_extract, ByteArray.size_extract] at h_; have h2_ : t421 ≤ (a1.size : Int) := (by first | assumption | exact of_eq_true (by assumption) | exact of_decide_eq_true (by assumption)); omega)
       simp only [Option.some.injEq, Prod.mk.injEq] at H
       obtain ⟨rfl, rfl, rfl⟩ := H
       go_enter Tryd.func105, Tryd.ntmps105
       try go_wp2_with (first | ((with_reducible refine gate_callee (f := 91) rfl ?_); refine gL_ (some 12) Tryd.func91 #[.pointer (some ⟨g, 0, none⟩), .int .i64 (wrap64 ((a1.size : Int) + 1))] ?_; (with_reducible refine (spec_l1Below.calls g s0_0 s0_1 s0_2 (wrap64 ((a1.size : Int) + 1)) t421 t422 t423 w0 _ ?side1 ?side2 A4.out).mono ?_); (case side1 => repeat (first | (with_reducible first | exact HI0.out | apply IsS151.alloc | apply IsS151.drewN | apply IsS151.drew | apply IsS151.set_1 | apply IsS151.set_2) | exact HI0.out)); (case side2 => repeat (first | (with_reducible first | exact HB.out | apply hA_ | apply hN_ | apply hD_ | refine below_set ?_ (IsS151.ge HI0.out)) | exact HB.out)); rintro e w19 ⟨rfl, hi, hb, hk⟩; refine ⟨_, rfl, ?_⟩; have n0 := aM_ (KeepBut.trans (by repeat (first | (with_reducible first | exact HK.out | apply KeepBut.set_ | apply keep_drewN | apply keep_drew | apply keep_alloc) | exact HK.out)) hk (.inl rfl)); have n1 := aM_ (hb); have n2 := aM_ (hi); clear HK; clear HB; clear HI0; have HK := n0; have HB := n1; have HI0 := n2; clear n0 n1 n2) | ((with_reducible refine gate_callee (f := 91) rfl ?_); refine gL_ (some 14) Tryd.func91 #[.pointer (some ⟨g, 0, none⟩), .int .i64 5] ?_; (with_reducible refine (spec_l1Below.calls g s0_0 t422 t423 5 t424 t425 t426 w0 _ ?side1 ?side2 A5.out).mono ?_); (case side1 => repeat (first | (with_reducible first | exact HI0.out | apply IsS151.alloc | apply IsS151.drewN | apply IsS151.drew | apply IsS151.set_1 | apply IsS151.set_2) | exact HI0.out)); (case side2 => repeat (first | (with_reducible first | exact HB.out | apply hA_ | apply hN_ | apply hD_ | refine below_set ?_ (IsS151.ge HI0.out)) | exact HB.out)); rintro e w20 ⟨rfl, hi, hb, hk⟩; refine ⟨_, rfl, ?_⟩; have n0 := aM_ (KeepBut.trans (by repeat (first | (with_reducible first | exact HK.out | apply KeepBut.set_ | apply keep_drewN | apply keep_drew | apply keep_alloc) | exact HK.out)) hk (.inl rfl)); have n1 := aM_ (hb); have n2 := aM_ (hi); clear HK; clear HB; clear HI0; have HK := n0; have HB := n1; have HI0 := n2; clear n0 n1 n2))
       (all_goals try (exfalso; have e1_ : (⟨#[32]⟩ : ByteArray).size = 1 := rfl; have e2_ : (⟨#[10]⟩ : ByteArray).size = 1 := rfl; simp only [ByteArray.size_append] at c18; omega))
       have n0 := aM_ (IsS151.drew HI0.out)
       have n1 := aM_ (keep_drew HK.out)
       have n2 := aM_ (below_drew1 HB.out)
       clear HI0
       clear HK
       clear HB
       have HI0 := n0
       have HK := n1
       have HB := n2
       clear n0 n1 n2
       refine start_ (n := 12) (S := fun w' => True) (ds := []) (mk_ 12 0) (by kernel_rfl) rfl rfl trivial (fun hHeld => ?_); refine with_tabW spec_l2Dent.tab6 spec_l2Dent.bits6 (fun HT_ HW_ => ?_)
       generalize w20.drew = w21 at HI0 HK HB hHeld ⊢
       refine pU_ 0 (some 22) (mk_ 12 1) ?_
       refine pU_ 1 (some 23) (mk_ 12 3) ?_
       refine pU_ 2 (some 24) (mk_ 12 7) ?_
       refine pU_ 3 (some 25) (mk_ 12 15) ?_
       refine pU_ 4 (some 26) (mk_ 12 31) ?_
       refine pU_ 7 (some 29) (mk_ 12 159) ?_
       refine pU_ 8 (some 30) (mk_ 12 415) ?_
       refine pU_ 9 (some 31) (mk_ 12 927) ?_
       refine oN_ 5 (some 27) (mk_ 12 959) (fun K hK => ?_)
       refine gO_ Tryd.func141 #[.pointer (some ⟨g, 0, none⟩), .slice A2 l2.length c2] ?_
       with_reducible refine (spec_l1Pick.calls g s0_0 t425 t426 _ _ l2 t427 t428 t429 w0 _ ?side1 ?side2 ?side3 ?side4 ?side5 A14.out).mono ?_
       (case side1 => repeat (first | (with_reducible first | exact HI0.out | apply IsS151.alloc | apply IsS151.drewN | apply IsS151.drew | apply IsS151.set_1 | apply IsS151.set_2) | exact HI0.out))
       (case side2 => repeat (first | (with_reducible first | exact HB.out | apply hA_ | apply hN_ | apply hD_ | refine below_set ?_ (IsS151.ge HI0.out)) | exact HB.out))
       (case side3 => exact Kd.C_keep (⟨#[]⟩ : ByteArray) HR2.out (by repeat (first | (with_reducible first | exact HK.out | apply KeepBut.set_ | apply keep_drewN | apply keep_drew | apply keep_alloc) | exact HK.out)) hf2)
       (case side4 => exact HC2.out)
       (case side5 => exact hf2)
       rintro e w22 ⟨rfl, hi, hb, hk⟩
       refine ⟨_, rfl, ?_⟩
       have n0 := aM_ (KeepBut.trans (by repeat (first | (with_reducible first | exact HK.out | apply KeepBut.set_ | apply keep_drewN | apply keep_drew | apply keep_alloc) | exact HK.out)) hk (.inl rfl))
       have n1 := aM_ (hb)
       have n2 := aM_ (hi)
       clear HK
       clear HB
       clear HI0
       have HK := n0
       have HB := n1
       have HI0 := n2
       clear n0 n1 n2
       (try clear hb)
       (try clear hb2)
       (try clear hk)
       (try clear hi)
       refine hK.out _ _ trivial (fun hHeld => ?_)
       clear hK K
       refine norm_ (a' := ?_) ?_ ?_
       rotate_left
       ·show Act.put _ (some 27) _ = _
        simp only [pt_, pn_, sI_, s0_, s1_, i64_w, i32_w]
        rfl
       refine pU_ 6 (some 28) (mk_ 12 1023) ?_
       refine pU_ 10 (some 32) (mk_ 12 2047) ?_
       refine pU_ 11 (some 6) (mk_ 12 4095) ?_
       refine done_ (done_of HT_.out (by kernel_rfl)) ?_
       try go_wp2
       go_ret
       exact ⟨by first | rfl | (simp [errW_none, errW_some] <;> rfl) | (simp [*, errW_none, errW_some] <;> rfl), by repeat (first | (with_reducible first | exact HI0.out | apply IsS151.alloc | apply IsS151.drewN | apply IsS151.drew | apply IsS151.set_1 | apply IsS151.set_2) | exact HI0.out), by repeat (first | (with_reducible first | exact HB.out | apply hA_ | apply hN_ | apply hD_ | refine below_set ?_ (IsS151.ge HI0.out)) | exact HB.out), by repeat (first | (with_reducible first | exact HK.out | apply KeepBut.set_ | apply keep_drewN | apply keep_drew | apply keep_alloc) | exact HK.out)⟩
      ·rw [if_neg c18] at H
       exact absurd H (by simp)
     ·rw [if_neg c15] at H
      exact absurd H (by simp)
    ·rw [if_neg c13] at H
     exact absurd H (by simp)
   ·rw [if_neg c12] at H
    exact absurd H (by simp)
  ·rw [if_neg c11] at H
   have c11b0 : (t424 == 1) = false := beq_eq_false_iff_ne.mpr c11
   have c11b1 : (t424 != 1) = true := bne_iff_ne.mpr c11
   simp only [Option.some.injEq, Prod.mk.injEq] at H
   obtain ⟨rfl, rfl, rfl⟩ := H
   go_enter Tryd.func105, Tryd.ntmps105
   go_wp2_with (first | ((with_reducible refine gate_callee (f := 91) rfl ?_); refine gL_ (some 12) Tryd.func91 #[.pointer (some ⟨g, 0, none⟩), .int .i64 (wrap64 ((a1.size : Int) + 1))] ?_; (with_reducible refine (spec_l1Below.calls g s0_0 s0_1 s0_2 (wrap64 ((a1.size : Int) + 1)) t421 t422 t423 w0 _ ?side1 ?side2 A4.out).mono ?_); (case side1 => repeat (first | (with_reducible first | exact HI0.out | apply IsS151.alloc | apply IsS151.drewN | apply IsS151.drew | apply IsS151.set_1 | apply IsS151.set_2) | exact HI0.out)); (case side2 => repeat (first | (with_reducible first | exact HB.out | apply hA_ | apply hN_ | apply hD_ | refine below_set ?_ (IsS151.ge HI0.out)) | exact HB.out)); rintro e w23 ⟨rfl, hi, hb, hk⟩; refine ⟨_, rfl, ?_⟩; have n0 := aM_ (KeepBut.trans (by repeat (first | (with_reducible first | exact HK.out | apply KeepBut.set_ | apply keep_drewN | apply keep_drew | apply keep_alloc) | exact HK.out)) hk (.inl rfl)); have n1 := aM_ (hb); have n2 := aM_ (hi); clear HK; clear HB; clear HI0; have HK := n0; have HB := n1; have HI0 := n2; clear n0 n1 n2) | ((with_reducible refine gate_callee (f := 91) rfl ?_); refine gL_ (some 14) Tryd.func91 #[.pointer (some ⟨g, 0, none⟩), .int .i64 5] ?_; (with_reducible refine (spec_l1Below.calls g s0_0 t422 t423 5 t424 t425 t426 w0 _ ?side1 ?side2 A5.out).mono ?_); (case side1 => repeat (first | (with_reducible first | exact HI0.out | apply IsS151.alloc | apply IsS151.drewN | apply IsS151.drew | apply IsS151.set_1 | apply IsS151.set_2) | exact HI0.out)); (case side2 => repeat (first | (with_reducible first | exact HB.out | apply hA_ | apply hN_ | apply hD_ | refine below_set ?_ (IsS151.ge HI0.out)) | exact HB.out)); rintro e w24 ⟨rfl, hi, hb, hk⟩; refine ⟨_, rfl, ?_⟩; have n0 := aM_ (KeepBut.trans (by repeat (first | (with_reducible first | exact HK.out | apply KeepBut.set_ | apply keep_drewN | apply keep_drew | apply keep_alloc) | exact HK.out)) hk (.inl rfl)); have n1 := aM_ (hb); have n2 := aM_ (hi); clear HK; clear HB; clear HI0; have HK := n0; have HB := n1; have HI0 := n2; clear n0 n1 n2))
   go_ret
   exact ⟨by first | rfl | (simp [errW_none, errW_some] <;> rfl) | (simp [*, errW_none, errW_some] <;> rfl), by repeat (first | (with_reducible first | exact HI0.out | apply IsS151.alloc | apply IsS151.drewN | apply IsS151.drew | apply IsS151.set_1 | apply IsS151.set_2) | exact HI0.out), by repeat (first | (with_reducible first | exact HB.out | apply hA_ | apply hN_ | apply hD_ | refine below_set ?_ (IsS151.ge HI0.out)) | exact HB.out), by repeat (first | (with_reducible first | exact HK.out | apply KeepBut.set_ | apply keep_drewN | apply keep_drew | apply keep_alloc) | exact HK.out)⟩
def spec_DrawInsRead.f (k : Nat) (l0 : List Int) : Option (ByteArray) := (spec_l1New.f k l0).bind fun bt430 => ((spec_l1DrawIns.f k bt430.1 bt430.2.1 bt430.2.2 8 2).bind fun bt434 => ((spec_InsText.f k bt434.1 bt434.2.1 bt434.2.2.1 bt434.2.2.2.1 bt434.2.2.2.2.1).bind fun t441 => ((spec_l2Dent.f bt430.1 bt434.2.2.2.2.2.1 bt434.2.2.2.2.2.2 t441 (([(⟨#[32]⟩ : ByteArray), (⟨#[48]⟩ : ByteArray), (⟨#[45]⟩ : ByteArray), (⟨#[120]⟩ : ByteArray), (⟨#[57]⟩ : ByteArray), (⟨#[32, 53]⟩ : ByteArray)] : List ByteArray))).bind fun bt445 => (some bt445.1))))
set_option maxHeartbeats 8000000 in
set_option maxRecDepth 100000 in
theorem spec_DrawInsRead.calls (k : Nat) (A0 : Option Addr) (c0 : Nat) (l0 : List Int) (r : ByteArray) (w : World) (hr0 : Kd.C (Kd.int .u8) w A0 l0.length l0) (hc0 : l0.length ≤ c0) (h : spec_DrawInsRead.f k l0 = some r) :
  Calls Tryd.prog 51 #[.slice A0 l0.length c0] w fun e w' => e = .returned (.string r) ∧ Below w.heap.size w w' := by
 have HR0 := aM_ hr0
 have HC0 := aM_ hc0
 clear hr0 hc0
 have HB := aM_ (Below.refl w.heap.size w)
 have H : ((spec_l1New.f k l0).bind fun bt430 => ((spec_l1DrawIns.f k bt430.1 bt430.2.1 bt430.2.2 8 2).bind fun bt434 => ((spec_InsText.f k bt434.1 bt434.2.1 bt434.2.2.1 bt434.2.2.2.1 bt434.2.2.2.2.1).bind fun t441 => ((spec_l2Dent.f bt430.1 bt434.2.2.2.2.2.1 bt434.2.2.2.2.2.2 t441 (([(⟨#[32]⟩ : ByteArray), (⟨#[48]⟩ : ByteArray), (⟨#[45]⟩ : ByteArray), (⟨#[120]⟩ : ByteArray), (⟨#[57]⟩ : ByteArray), (⟨#[32, 53]⟩ : ByteArray)] : List ByteArray))).bind fun bt445 => (some bt445.1))))) = some r := h
 clear h
 replace H := Option.bind_eq_some_iff.mp H
 obtain ⟨⟨t430, t431, t432⟩, A20, H⟩ := H
 replace H : ((spec_l1DrawIns.f k t430 t431 t432 8 2).bind fun bt434 => ((spec_InsText.f k bt434.1 bt434.2.1 bt434.2.2.1 bt434.2.2.2.1 bt434.2.2.2.2.1).bind fun t441 => ((spec_l2Dent.f t430 bt434.2.2.2.2.2.1 bt434.2.2.2.2.2.2 t441 (([(⟨#[32]⟩ : ByteArray), (⟨#[48]⟩ : ByteArray), (⟨#[45]⟩ : ByteArray), (⟨#[120]⟩ : ByteArray), (⟨#[57]⟩ : ByteArray), (⟨#[32, 53]⟩ : ByteArray)] : List ByteArray))).bind fun bt445 => (some bt445.1)))) = some r := H
 have A2 := aM_ A20
 clear A20
 replace H := Option.bind_eq_some_iff.mp H
 obtain ⟨⟨t434, t435, t436, t437, t438, t439, t440⟩, A30, H⟩ := H
 replace H : ((spec_InsText.f k t434 t435 t436 t437 t438).bind fun t441 => ((spec_l2Dent.f t430 t439 t440 t441 (([(⟨#[32]⟩ : ByteArray), (⟨#[48]⟩ : ByteArray), (⟨#[45]⟩ : ByteArray), (⟨#[120]⟩ : ByteArray), (⟨#[57]⟩ : ByteArray), (⟨#[32, 53]⟩ : ByteArray)] : List ByteArray))).bind fun bt445 => (some bt445.1))) = some r := H
 have A3 := aM_ A30
 clear A30
 replace H := Option.bind_eq_some_iff.mp H
 obtain ⟨t441, A40, H⟩ := H
 replace H : ((spec_l2Dent.f t430 t439 t440 t441 (([(⟨#[32]⟩ : ByteArray), (⟨#[48]⟩ : ByteArray), (⟨#[45]⟩ : ByteArray), (⟨#[120]⟩ : ByteArray), (⟨#[57]⟩ : ByteArray), (⟨#[32, 53]⟩ : ByteArray)] : List ByteArray))).bind fun bt445 => (some bt445.1)) = some r := H
 have A4 := aM_ A40
 clear A40
 obtain ⟨y442, hy442⟩ : ∃ y_ : List ByteArray, y_ = (([(⟨#[32]⟩ : ByteArray), (⟨#[48]⟩ : ByteArray), (⟨#[45]⟩ : ByteArray), (⟨#[120]⟩ : ByteArray), (⟨#[57]⟩ : ByteArray), (⟨#[32, 53]⟩ : ByteArray)] : List ByteArray)) := ⟨_, rfl⟩
 replace H : ((spec_l2Dent.f t430 t439 t440 t441 y442).bind fun bt445 => (some bt445.1)) = some r := by first | (rw [hy442]; with_reducible exact H) | (have H2_ := (Option.bind_some _ _).symm.trans H; rw [hy442]; with_reducible exact H2_) | (have H2_ := (Option.bind_some _ _).symm.trans H; with_reducible exact H2_) | with_reducible exact H | (rw [hy442]; exact H) | exact H
 have Ny442 := aM_ hy442
 clear hy442
 replace H := Option.bind_eq_some_iff.mp H
 obtain ⟨⟨t445, t446, t447⟩, A50, H⟩ := H
 replace H : (some t445) = some r := H
 have A5 := aM_ A50
 clear A50
 obtain rfl := Option.some.inj H
 go_enter Tryd.func51, Tryd.ntmps51
 go_wp2_with (first | ((with_reducible refine gate_callee (f := 90) rfl ?_); refine gL_ (some 5) Tryd.func90 #[.slice A0 l0.length c0] ?_; (with_reducible refine (spec_l1New.calls k _ _ l0 t430 t431 t432 w _ ?side1 ?side2 ?side3 A2.out).mono ?_); (case side1 => repeat (first | (with_reducible first | exact HB.out | apply hA_ | apply hN_ | apply hD_) | exact HB.out)); (case side2 => exact HR0.out); (case side3 => exact HC0.out); rintro e w6 ⟨g433, rfl, hi, hb, hb2⟩; refine ⟨_, rfl, ?_⟩; have n0 := aM_ (hb); have n1 := aM_ (hi); clear HB; have HB := n0; have HI433 := n1; clear n0 n1) | ((with_reducible refine gate_callee (f := 106) rfl ?_); refine gL_ (some 8) Tryd.func106 #[.pointer (some ⟨g433, 0, none⟩), .int .i64 8, .int .i64 2] ?_; (with_reducible refine (spec_l1DrawIns.calls k g433 t430 t431 t432 8 2 t434 t435 t436 t437 t438 t439 t440 w _ ?side1 ?side2 A3.out).mono ?_); (case side1 => repeat (first | (with_reducible first | exact HI433.out | apply IsS151.alloc | apply IsS151.drewN | apply IsS151.drew | apply IsS151.set_1 | apply IsS151.set_2) | exact HI433.out)); (case side2 => repeat (first | (with_reducible first | exact HB.out | apply hA_ | apply hN_ | apply hD_ | refine below_set ?_ (IsS151.ge HI433.out)) | exact HB.out)); rintro e w7 ⟨rfl, hi, hb, hk⟩; refine ⟨_, rfl, ?_⟩; have n0 := aM_ (hb); have n1 := aM_ (hi); clear HB; clear HI433; have HB := n0; have HI433 := n1; clear n0 n1) | ((with_reducible refine gate_callee (f := 19) rfl ?_); refine gL_ (some 9) Tryd.func19 #[.agg #[.int .i64 t434, .int .i64 t435, .int .i64 t436, .int .i64 t437, .int .i64 t438]] ?_; (with_reducible refine (spec_InsText.calls k t434 t435 t436 t437 t438 t441 _ A4.out).mono ?_); rintro e w8 ⟨rfl, hb⟩; refine ⟨_, rfl, ?_⟩; have n0 := aM_ (IsS151.below (by repeat (first | (with_reducible first | exact HI433.out | apply IsS151.alloc | apply IsS151.drewN | apply IsS151.drew | apply IsS151.set_1 | apply IsS151.set_2) | exact HI433.out)) hb); have n1 := aM_ (below_step (by repeat (first | (with_reducible first | exact HB.out | apply hA_ | apply hN_ | apply hD_ | refine below_set ?_ (IsS151.ge HI433.out)) | exact HB.out)) hb); clear HI433; clear HB; have HI433 := n0; have HB := n1; clear n0 n1) | ((with_reducible refine gate_dst (N := 10) rfl ?_); refine Kd.R_lit Kd.string _ 9 ?hg (N := 10) ?hd (xs := ([(⟨#[32]⟩ : ByteArray), (⟨#[48]⟩ : ByteArray), (⟨#[45]⟩ : ByteArray), (⟨#[120]⟩ : ByteArray), (⟨#[57]⟩ : ByteArray), (⟨#[32, 53]⟩ : ByteArray)] : List ByteArray)) (inner := [.string (⟨#[32]⟩ : ByteArray), .string (⟨#[48]⟩ : ByteArray), .string (⟨#[45]⟩ : ByteArray), .string (⟨#[120]⟩ : ByteArray), .string (⟨#[57]⟩ : ByteArray), .string (⟨#[32, 53]⟩ : ByteArray)]) (ok := fun _ => True) (okp := fun _ => True) ?hr ?hp (fun _ hk => hk) trivial (Below.refl _ _) (Nat.le_refl _) (by simp) ?_; (case hd => rfl); (case hg => rfl); (case hr => first | (go_simp; done) | (go_simp; rfl)); (case hp => exact (Reps.one (show Kd.M Kd.string _ _ _ (⟨#[32]⟩ : ByteArray) [.string (⟨#[32]⟩ : ByteArray)] from rfl) (Reps.one (show Kd.M Kd.string _ _ _ (⟨#[48]⟩ : ByteArray) [.string (⟨#[48]⟩ : ByteArray)] from rfl) (Reps.one (show Kd.M Kd.string _ _ _ (⟨#[45]⟩ : ByteArray) [.string (⟨#[45]⟩ : ByteArray)] from rfl) (Reps.one (show Kd.M Kd.string _ _ _ (⟨#[120]⟩ : ByteArray) [.string (⟨#[120]⟩ : ByteArray)] from rfl) (Reps.one (show Kd.M Kd.string _ _ _ (⟨#[57]⟩ : ByteArray) [.string (⟨#[57]⟩ : ByteArray)] from rfl) (Reps.one (show Kd.M Kd.string _ _ _ (⟨#[32, 53]⟩ : ByteArray) [.string (⟨#[32, 53]⟩ : ByteArray)] from rfl) (Reps.none _ _)))))))); intro v443 w9 ho10 hb hg_ hnew_; clear hg_ hnew_; (first | rw [← Ny442.out] at ho10 | (simp only [Int.reduceToNat] at ho10; rw [← Ny442.out] at ho10)); have n0 := aM_ (Kd.R_lower ho10 (below_size (by repeat (first | (with_reducible first | exact HB.out | apply hA_ | apply hN_ | apply hD_ | refine below_set ?_ (IsS151.ge HI433.out)) | exact HB.out)))); have n1 := aM_ (IsS151.below (by repeat (first | (with_reducible first | exact HI433.out | apply IsS151.alloc | apply IsS151.drewN | apply IsS151.drew | apply IsS151.set_1 | apply IsS151.set_2) | exact HI433.out)) hb); have n2 := aM_ (below_step (by repeat (first | (with_reducible first | exact HB.out | apply hA_ | apply hN_ | apply hD_ | refine below_set ?_ (IsS151.ge HI433.out)) | exact HB.out)) hb); clear HI433; clear HB; have HO444 := n0; have HI433 := n1; have HB := n2; clear n0 n1 n2; clear hb ho10; obtain ⟨Ao11, co11, eo11⟩ := Kd.R_slice HO444.out; subst eo11) | ((with_reducible refine gate_callee (f := 105) rfl ?_); refine gL_ (some 11) Tryd.func105 #[.pointer (some ⟨g433, 0, none⟩), .string t441, .slice Ao11 y442.length co11] ?_; (with_reducible refine (spec_l2Dent.calls g433 t430 t439 t440 t441 _ _ y442 t445 t446 t447 w _ ?side1 ?side2 ?side3 ?side4 ?side5 A5.out).mono ?_); (case side1 => repeat (first | (with_reducible first | exact HI433.out | apply IsS151.alloc | apply IsS151.drewN | apply IsS151.drew | apply IsS151.set_1 | apply IsS151.set_2) | exact HI433.out)); (case side2 => repeat (first | (with_reducible first | exact HB.out | apply hA_ | apply hN_ | apply hD_ | refine below_set ?_ (IsS151.ge HI433.out)) | exact HB.out)); (case side3 => exact cS_ (Kd.R_reads' HO444.out).2.2); (case side4 => exact (Kd.R_reads' HO444.out).2.1); (case side5 => exact far_slice (IsS151.own_ne HI433.out HO444.out (by decide))); rintro e w12 ⟨rfl, hi, hb, hk⟩; refine ⟨_, rfl, ?_⟩; have n0 := aM_ (Kd.R_mono (Kd.R_keep (IsS151.apart (show IsS151 w _ g433 t430 t439 t440 from by repeat (first | (with_reducible first | exact HI433.out | apply IsS151.alloc | apply IsS151.drewN | apply IsS151.drew | apply IsS151.set_1 | apply IsS151.set_2) | exact HI433.out)) (by (with_reducible repeat (first | apply rA_ | apply rN_ | apply rD_)); exact HO444.out) (by decide)) hk (fun _ h => h.2)) (fun _ h => h.1)); have n1 := aM_ (hb); have n2 := aM_ (hi); clear HO444; clear HB; clear HI433; have HO444 := n0; have HB := n1; have HI433 := n2; clear n0 n1 n2))
 go_ret
 exact ⟨by first | rfl | (simp [errW_none, errW_some] <;> rfl) | (simp [*, errW_none, errW_some] <;> rfl), by repeat (first | (with_reducible first | exact HB.out | apply hA_ | apply hN_ | apply hD_ | refine below_set ?_ (IsS151.ge HI433.out)) | exact HB.out)⟩
def spec_l2Words.l0 : Nat → ByteArray → List ByteArray → Int → Int → Option (List ByteArray)
  | 0, _, _, _, _ => none
  | k + 1, x0, x3, x4, x5 => if x5 ≤ (x0.size : Int) then (if x5 = (x0.size : Int) then (if 0 ≤ x4 then (if x4 ≤ x5 then (if x3.length < 8796093022208 then (spec_l2Words.l0 k x0 (x3 ++ [x0.extract (x4 : Int).toNat (x5 : Int).toNat]) (wrap64 (x5 + 1)) (wrap64 (x5 + 1))) else (none)) else (none)) else (none)) else (if 0 ≤ x5 then (if x5 < (x0.size : Int) then (if (bt x0 x5) = 32 then (if 0 ≤ x4 then (if x4 ≤ x5 then (if x3.length < 8796093022208 then (spec_l2Words.l0 k x0 (x3 ++ [x0.extract (x4 : Int).toNat (x5 : Int).toNat]) (wrap64 (x5 + 1)) (wrap64 (x5 + 1))) else (none)) else (none)) else (none)) else (spec_l2Words.l0 k x0 x3 x4 (wrap64 (x5 + 1)))) else (none)) else (none))) else (some x3)
def spec_l2Words.f (k : Nat) (a0 : ByteArray) : Option (List ByteArray) := spec_l2Words.l0 k a0 (([] : List ByteArray)) 0 0
set_option maxHeartbeats 8000000 in
set_option maxRecDepth 100000 in
theorem spec_l2Words.calls (k : Nat) (a0 : ByteArray) (r : List ByteArray) (w : World) (h : spec_l2Words.f k a0 = some r) :
  Calls Tryd.prog 107 #[.string a0] w fun e w' => ∃ v0_ : Value, e = .returned (v0_) ∧ Kd.R Kd.string 9 w' w.heap.size (fun _ => True) v0_ r ∧ Below w.heap.size w w' := by
 have HB := aM_ (Below.refl w.heap.size w)
 have H : (spec_l2Words.l0 k a0 (([] : List ByteArray)) 0 0) = some r := h
 clear h
 obtain ⟨y448, hy448⟩ : ∃ y_ : List ByteArray, y_ = (([] : List ByteArray)) := ⟨_, rfl⟩
 replace H : (spec_l2Words.l0 k a0 y448 0 0) = some r := by first | (rw [hy448]; with_reducible exact H) | (have H2_ := (Option.bind_some _ _).symm.trans H; rw [hy448]; with_reducible exact H2_) | (have H2_ := (Option.bind_some _ _).symm.trans H; with_reducible exact H2_) | with_reducible exact H | (rw [hy448]; exact H) | exact H
 have Ny448 := aM_ hy448
 clear hy448
 have H' := aM_ H
 clear H
 go_enter Tryd.func107, Tryd.ntmps107
 go_wp2_with (first | ((with_reducible refine gate_dst (N := 6) rfl ?_); refine Kd.R_lit Kd.string _ 9 ?hg (N := 6) ?hd (xs := ([] : List ByteArray)) (inner := []) (ok := fun _ => True) (okp := fun _ => True) ?hr ?hp (fun _ hk => hk) trivial (Below.refl _ _) (Nat.le_refl _) (by simp) ?_; (case hd => rfl); (case hg => rfl); (case hr => first | (go_simp; done) | (go_simp; rfl)); (case hp => exact (Reps.none _ _)); intro v449 w2 ho3 hb hg_ hnew_; clear hg_ hnew_; (first | rw [← Ny448.out] at ho3 | (simp only [Int.reduceToNat] at ho3; rw [← Ny448.out] at ho3)); have n0 := aM_ (Kd.R_lower ho3 (below_size (by repeat (first | (with_reducible first | exact HB.out | apply hA_ | apply hN_ | apply hD_) | exact HB.out)))); have n1 := aM_ (sT_ HB.out hb); clear HB; have HO450 := n0; have HB := n1; clear n0 n1; clear hb ho3))
 go_loopg [3, 4, 5] k (fun kq v3 v4 v5 w' => ∃ (x3_1 : List ByteArray) (x4_1 : Int) (x5_1 : Int), v4 = .int .i64 x4_1 ∧ v5 = .int .i64 x5_1 ∧ Aside0 (spec_l2Words.l0 kq a0 x3_1 x4_1 x5_1 = some r) ∧ Aside0 (kq ≤ k) ∧ Aside0 (Kd.R Kd.string 9 w' w.heap.size (fun _ => True) v3 x3_1) ∧ Aside0 (Below w.heap.size w w'))
 case atStart => exact ⟨(y448), (0), (0), (by first | rfl | (simp; done) | (simp [*]; done)), (by first | rfl | (simp; done) | (simp [*]; done)), H', ⟨Nat.le_refl _⟩, ⟨by (with_reducible repeat (first | apply rA_ | apply rN_ | apply rD_)); exact HO450.out⟩, ⟨gW_ HB.out⟩⟩
 case round =>
  clear H'
  try clear c1
  try clear p2
  obtain ⟨x3_1, x4_1, x5_1, rfl, rfl, HA, HK1, HO_3, HB⟩ := hrel
  cases gk with
  | zero => exact absurd HA.out (by simp [spec_l2Words.l0])
  | succ k1 =>
   have H := HA.out
   clear HA
   simp only [spec_l2Words.l0] at H
   by_cases c4 : x5_1 ≤ (a0.size : Int)
   ·rw [if_pos c4] at H
    have c4b0 : decide (x5_1 ≤ (a0.size : Int)) = true := decide_eq_true c4
    clear c4
    by_cases c5 : x5_1 = (a0.size : Int)
    ·rw [if_pos c5] at H
     have c5b0 : (x5_1 == (a0.size : Int)) = true := beq_iff_eq.mpr c5
     have c5b1 : (x5_1 != (a0.size : Int)) = false := bne_eq_false_iff_eq.mpr c5
     clear c5
     by_cases c6 : 0 ≤ x4_1
     ·rw [if_pos c6] at H
      have c6b0 := eq_true c6
      have c6b1 : decide (0 ≤ x4_1) = true := decide_eq_true c6
      clear c6
      by_cases c7 : x4_1 ≤ x5_1
      ·rw [if_pos c7] at H
       have c7b0 := eq_true c7
       have c7b1 : decide (x4_1 ≤ x5_1) = true := decide_eq_true c7
       clear c7
       have c8b0 := eq_true (of_decide_eq_true (by first | (with_reducible assumption) | assumption) : x5_1 ≤ (a0.size : Int))
       by_cases c9 : x3_1.length < 8796093022208
       ·rw [if_pos c9] at H
        have LMc9 := aM_ c9
        clear c9
        obtain ⟨y451, hy451⟩ : ∃ y_ : List ByteArray, y_ = (x3_1 ++ [a0.extract (x4_1 : Int).toNat (x5_1 : Int).toNat]) := ⟨_, rfl⟩
        replace H : (spec_l2Words.l0 k1 a0 y451 (wrap64 (x5_1 + 1)) (wrap64 (x5_1 + 1))) = some r := by first | (rw [hy451]; with_reducible exact H) | (have H2_ := (Option.bind_some _ _).symm.trans H; rw [hy451]; with_reducible exact H2_) | (have H2_ := (Option.bind_some _ _).symm.trans H; with_reducible exact H2_) | with_reducible exact H | (rw [hy451]; exact H) | exact H
        have Ny451 := aM_ hy451
        clear hy451
        have H' := aM_ H
        clear H
        go_wp2_with (first | ((with_reducible refine gate_builtin (b := .append) (xs := #[.tmp 23, .tmp 28]) rfl ?_); at_builtin; refine Kd.R_append Kd.string (w0 := w) w.heap.size rfl (.tmp 23) (.tmp 28) 93 9 (.string ⟨#[]⟩) 16 rfl Tryd.underlying93 info9 rfl (by decide) (by omega) u3 x3_1 (a0.extract (x4_1 : Int).toNat (x5_1 : Int).toNat) [.string (a0.extract (x4_1 : Int).toNat (x5_1 : Int).toNat)] (fun _ => True) (fun _ => False) rfl rfl ?aP (fun _ hk => hk.elim) ?aF ?aO ?aB ?aS ?aL ?_; (case aP => exact rfl); (case aB => exact (by repeat (first | (with_reducible first | exact HB.out | apply hA_ | apply hN_ | apply hD_) | exact HB.out))); (case aF => exact (fun _ _ => trivial)); (case aO => exact (by (with_reducible repeat (first | apply rA_ | apply rN_ | apply rD_)); exact HO_3.out)); (case aS => exact (below_size (by repeat (first | (with_reducible first | exact HB.out | apply hA_ | apply hN_ | apply hD_) | exact HB.out)))); (case aL => have := LMc9.out; omega); intro v452 w10 ho hb hg hat; rw [← Ny451.out] at ho; have n0 := aM_ (hb); have n1 := aM_ (ho); clear HB; clear HO_3; have HB := n0; have HO453 := n1; clear n0 n1; clear ho hb hg hat))
        go_roundg k1
        case measure => have := HK1.out; omega
        case rel => exact ⟨(y451), (wrap64 (x5_1 + 1)), (wrap64 (x5_1 + 1)), (by first | rfl | (simp; done) | (simp [*]; done)), (by first | rfl | (simp; done) | (simp [*]; done)), H', ⟨by have := HK1.out; omega⟩, ⟨by (with_reducible repeat (first | apply rA_ | apply rN_ | apply rD_)); exact HO453.out⟩, ⟨gW_ HB.out⟩⟩
       ·rw [if_neg c9] at H
        exact absurd H (by simp)
      ·rw [if_neg c7] at H
       exact absurd H (by simp)
     ·rw [if_neg c6] at H
      exact absurd H (by simp)
    ·rw [if_neg c5] at H
     have c5b0 : (x5_1 == (a0.size : Int)) = false := beq_eq_false_iff_ne.mpr c5
     have c5b1 : (x5_1 != (a0.size : Int)) = true := bne_iff_ne.mpr c5
     by_cases c11 : 0 ≤ x5_1
     ·rw [if_pos c11] at H
      have c11b0 : decide (0 ≤ x5_1) = true := decide_eq_true c11
      clear c11
      by_cases c12 : x5_1 < (a0.size : Int)
      ·rw [if_pos c12] at H
       have c12b0 : decide (x5_1 < (a0.size : Int)) = true := decide_eq_true c12
       clear c12
       by_cases c14 : (bt a0 x5_1) = 32
       ·rw [if_pos c14] at H
        have c14b0 : ((bt a0 x5_1) == 32) = true := beq_iff_eq.mpr c14
        have c14b1 : ((bt a0 x5_1) != 32) = false := bne_eq_false_iff_eq.mpr c14
        clear c14
        by_cases c15 : 0 ≤ x4_1
        ·rw [if_pos c15] at H
         have c15b0 := eq_true c15
         have c15b1 : decide (0 ≤ x4_1) = true := decide_eq_true c15
         clear c15
         by_cases c16 : x4_1 ≤ x5_1
         ·rw [if_pos c16] at H
          have c16b0 := eq_true c16
          have c16b1 : decide (x4_1 ≤ x5_1) = true := decide_eq_true c16
          clear c16
          have c17b0 := eq_true (of_decide_eq_true (by first | (with_reducible assumption) | assumption) : x5_1 ≤ (a0.size : Int))
          by_cases c18 : x3_1.length < 8796093022208
          ·rw [if_pos c18] at H
           have LMc18 := aM_ c18
           clear c18
           obtain ⟨y454, hy454⟩ : ∃ y_ : List ByteArray, y_ = (x3_1 ++ [a0.extract (x4_1 : Int).toNat (x5_1 : Int).toNat]) := ⟨_, rfl⟩
           replace H : (spec_l2Words.l0 k1 a0 y454 (wrap64 (x5_1 + 1)) (wrap64 (x5_1 + 1))) = some r := by first | (rw [hy454]; with_reducible exact H) | (have H2_ := (Option.bind_some _ _).symm.trans H; rw [hy454]; with_reducible exact H2_) | (have H2_ := (Option.bind_some _ _).symm.trans H; with_reducible exact H2_) | with_reducible exact H | (rw [hy454]; exact H) | exact H
           have Ny454 := aM_ hy454
           clear hy454
           have H' := aM_ H
           clear H
           have p13 : 0 ≤ (x5_1 : Int) := of_decide_eq_true (by first | (with_reducible assumption) | assumption)
           have q13 : x5_1 < (a0.size : Int) := of_decide_eq_true (by first | (with_reducible assumption) | assumption)
           have hx13 := bt_at a0 x5_1
           replace p13 := eq_true p13
           replace q13 := eq_true q13
           go_wp2_with (first | ((with_reducible refine gate_builtin (b := .append) (xs := #[.tmp 23, .tmp 28]) rfl ?_); at_builtin; refine Kd.R_append Kd.string (w0 := w) w.heap.size rfl (.tmp 23) (.tmp 28) 93 9 (.string ⟨#[]⟩) 16 rfl Tryd.underlying93 info9 rfl (by decide) (by omega) u3 x3_1 (a0.extract (x4_1 : Int).toNat (x5_1 : Int).toNat) [.string (a0.extract (x4_1 : Int).toNat (x5_1 : Int).toNat)] (fun _ => True) (fun _ => False) rfl rfl ?aP (fun _ hk => hk.elim) ?aF ?aO ?aB ?aS ?aL ?_; (case aP => exact rfl); (case aB => exact (by repeat (first | (with_reducible first | exact HB.out | apply hA_ | apply hN_ | apply hD_) | exact HB.out))); (case aF => exact (fun _ _ => trivial)); (case aO => exact (by (with_reducible repeat (first | apply rA_ | apply rN_ | apply rD_)); exact HO_3.out)); (case aS => exact (below_size (by repeat (first | (with_reducible first | exact HB.out | apply hA_ | apply hN_ | apply hD_) | exact HB.out)))); (case aL => have := LMc18.out; omega); intro v455 w19 ho hb hg hat; rw [← Ny454.out] at ho; have n0 := aM_ (hb); have n1 := aM_ (ho); clear HB; clear HO_3; have HB := n0; have HO456 := n1; clear n0 n1; clear ho hb hg hat))
           go_roundg k1
           case measure => have := HK1.out; omega
           case rel => exact ⟨(y454), (wrap64 (x5_1 + 1)), (wrap64 (x5_1 + 1)), (by first | rfl | (simp; done) | (simp [*]; done)), (by first | rfl | (simp; done) | (simp [*]; done)), H', ⟨by have := HK1.out; omega⟩, ⟨by (with_reducible repeat (first | apply rA_ | apply rN_ | apply rD_)); exact HO456.out⟩, ⟨gW_ HB.out⟩⟩
          ·rw [if_neg c18] at H
           exact absurd H (by simp)
         ·rw [if_neg c16] at H
          exact absurd H (by simp)
        ·rw [if_neg c15] at H
         exact absurd H (by simp)
       ·rw [if_neg c14] at H
        have c14b0 : ((bt a0 x5_1) == 32) = false := beq_eq_false_iff_ne.mpr c14
        have c14b1 : ((bt a0 x5_1) != 32) = true := bne_iff_ne.mpr c14
        have H' := aM_ H
        clear H
        have p13 : 0 ≤ (x5_1 : Int) := of_decide_eq_true (by first | (with_reducible assumption) | assumption)
        have q13 : x5_1 < (a0.size : Int) := of_decide_eq_true (by first | (with_reducible assumption) | assumption)
        have hx13 := bt_at a0 x5_1
        replace p13 := eq_true p13
        replace q13 := eq_true q13
        go_wp2
        go_roundg k1
        case measure => have := HK1.out; omega
        case rel => exact ⟨(x3_1), (x4_1), (wrap64 (x5_1 + 1)), (by first | rfl | (simp; done) | (simp [*]; done)), (by first | rfl | (simp; done) | (simp [*]; done)), H', ⟨by have := HK1.out; omega⟩, ⟨by (with_reducible repeat (first | apply rA_ | apply rN_ | apply rD_)); exact HO_3.out⟩, ⟨gW_ HB.out⟩⟩
      ·rw [if_neg c12] at H
       exact absurd H (by simp)
     ·rw [if_neg c11] at H
      exact absurd H (by simp)
   ·rw [if_neg c4] at H
    have c4b0 : decide (x5_1 ≤ (a0.size : Int)) = false := decide_eq_false c4
    clear c4
    obtain rfl := Option.some.inj H
    go_wp2
    go_ret
    exact ⟨_, by first | rfl | (simp [errW_none, errW_some] <;> rfl) | (simp [*, errW_none, errW_some] <;> rfl), by (with_reducible repeat (first | apply rA_ | apply rN_ | apply rD_)); exact HO_3.out, by repeat (first | (with_reducible first | exact HB.out | apply hA_ | apply hN_ | apply hD_) | exact HB.out)⟩
end Go.Proofs.YtkjfcmgpplapeaaDoor.PFnInsText
namespace Go.Proofs.YtkjfcmgpplapeaaDoor.PFnInsText
open Go.RowKit Go.Proofs.YtkjfcmgpplapeaaDoorW.PrintWords Go.Proofs.YtkjfcmgpplapeaaDoorW.PrintLast Go.Proofs.YtkjfcmgpplapeaaDoorW.PrintMore
attribute [local go_sem] max2_int min2_int max_two min_two max_three min_three max_four min_four   -- for this text's walks alone
set_option linter.unusedVariables false
set_option linter.unusedSimpArgs false
mutual
def spec_l2Read.j0 : Nat → ByteArray → Int → Bool → Option (Int × Bool)
  | 0, _, _, _ => none
  | k + 1, x0, x4, x14 => if x14 = true then (spec_l2Read.j1 k x0 1) else (spec_l2Read.j1 k x0 x4)
def spec_l2Read.j1 : Nat → ByteArray → Int → Option (Int × Bool)
  | 0, _, _ => none
  | k + 1, x0, x4 => if (x0.size : Int) = x4 then (spec_l2Read.j2 k x0 x4 true) else (spec_l2Read.j2 k x0 x4 (decide ((wrap64 ((x0.size : Int) - x4)) > 10)))
def spec_l2Read.j2 : Nat → ByteArray → Int → Bool → Option (Int × Bool)
  | 0, _, _, _ => none
  | k + 1, x0, x4, x25 => if x25 = true then (some (0, false)) else (spec_l2Read.l0 k x0 x4 0 x4)
def spec_l2Read.l0 : Nat → ByteArray → Int → Int → Int → Option (Int × Bool)
  | 0, _, _, _, _ => none
  | k + 1, x0, x4, x5, x6 => if x6 < (x0.size : Int) then (if 0 ≤ x6 then (if (bt x0 x6) < 48 then (some (0, false)) else (if (bt x0 x6) > 57 then (some (0, false)) else (spec_l2Read.l0 k x0 x4 (wrap64 ((wrap64 ((wrap64 (10 * x5)) + (wrap64 (bt x0 x6)))) - 48)) (wrap64 (x6 + 1))))) else (none)) else (if x4 = 1 then ((spec_l2Digits.f k (wrap64 (-x5))).bind fun t457 => (some (wrap64 (-x5), (t457.toList == x0.toList)))) else ((spec_l2Digits.f k x5).bind fun t458 => (some (x5, (t458.toList == x0.toList)))))
end
def spec_l2Read.f (k : Nat) (a0 : ByteArray) : Option (Int × Bool) := if (a0.size : Int) > 1 then (if 0 < (a0.size : Int) then (spec_l2Read.j0 k a0 0 ((bt a0 0) == 45)) else (none)) else (spec_l2Read.j0 k a0 0 false)
set_option maxHeartbeats 8000000 in
set_option maxRecDepth 100000 in
theorem spec_l2Read.calls (k : Nat) (a0 : ByteArray) (r1 : Int) (r2 : Bool) (w : World) (h : spec_l2Read.f k a0 = some (r1, r2)) :
  Calls Tryd.prog 108 #[.string a0] w fun e w' => e = .returned (.tuple #[.int .i64 r1, .bool r2]) ∧ Below w.heap.size w w' := by
 have HB := aM_ (Below.refl w.heap.size w)
 have H : (if (a0.size : Int) > 1 then (if 0 < (a0.size : Int) then (spec_l2Read.j0 k a0 0 ((bt a0 0) == 45)) else (none)) else (spec_l2Read.j0 k a0 0 false)) = some (r1, r2) := h
 clear h
 have HC2 := aM_ H
 clear H
 go_enter Tryd.func108, Tryd.ntmps108
 go_upto_region 2 with (fail)
 go_cut [14] (fun v14 wc => ∃ (kq : Nat) (x14_1 : Bool), v14 = .bool x14_1 ∧ Aside0 (spec_l2Read.j0 kq a0 0 x14_1 = some (r1, r2)) ∧ Aside0 (kq ≤ k) ∧ Aside0 (Below w.heap.size w wc))
 case first =>
  have H := HC2.out
  clear HC2
  by_cases c3 : (a0.size : Int) > 1
  ·rw [if_pos c3] at H
   have c3b0 : decide (1 < (a0.size : Int)) = true := decide_eq_true c3
   have c3b1 : decide (1 < a0.size) = true := decide_eq_true (by omega)
   clear c3
   (first | rw [c3b0] | (simp only [i64_w, i32_w]; rw [c3b0]) | skip)
   by_cases c4 : 0 < (a0.size : Int)
   ·rw [if_pos c4] at H
    have c4b0 : decide (0 < (a0.size : Int)) = true := decide_eq_true c4
    have c4b1 : decide (0 < a0.size) = true := decide_eq_true (by omega)
    clear c4
    have H' := aM_ H
    clear H
    have p5 : 0 ≤ (0 : Int) := (by omega)
    have q5 : 0 < a0.size := (by have : (0 : Int) < (a0.size : Int) := of_decide_eq_true (by first | (with_reducible assumption) | assumption); omega)
    have hx5 : ∀ h : 0 < a0.size, ((a0[0]'h).toNat : Int) = bt a0 0 := bt_at a0 0
    clear p5
    have qi5 : (0 < (a0.size : Int)) = True := eq_true (of_decide_eq_true (by first | (with_reducible assumption) | assumption))
    replace q5 := eq_true q5
    go_wp2
    go_meet
    case rel => exact ⟨_, (((bt a0 0) == 45)), (by first | rfl | (simp; done) | (simp [*]; done)), H', ⟨by first | omega | exact Nat.le_refl _⟩, ⟨gW_ HB.out⟩⟩
   ·rw [if_neg c4] at H
    exact absurd H (by simp)
  ·rw [if_neg c3] at H
   have c3b0 : decide (1 < (a0.size : Int)) = false := decide_eq_false c3
   have c3b1 : decide (1 < a0.size) = false := decide_eq_false (by omega)
   clear c3
   (first | rw [c3b0] | (simp only [i64_w, i32_w]; rw [c3b0]) | skip)
   have H' := aM_ H
   clear H
   go_wp2
   go_meet
   case rel => exact ⟨_, (false), (by first | rfl | (simp; done) | (simp [*]; done)), H', ⟨by first | omega | exact Nat.le_refl _⟩, ⟨gW_ HB.out⟩⟩
 case rest =>
  clear HC2
  try clear c1
  try clear p2
  try clear c3
  try clear c3b0
  try clear c3b1
  try clear c4
  try clear c4b0
  try clear c4b1
  try clear p5
  try clear q5
  try clear hx5
  try clear qi5
  try clear p5
  try clear q5
  obtain ⟨kq, x14_1, rfl, HA, HJ1, HB⟩ := hcut
  cases kq with
  | zero => exact absurd HA.out (by simp [spec_l2Read.j0])
  | succ kj1 =>
   have H := HA.out
   clear HA
   simp only [spec_l2Read.j0] at H
   have HC6 := aM_ H
   clear H
   go_upto_if 14 with (fail)
   go_cut [4] (fun v4 wc => ∃ (kq : Nat) (x4_5 : Int), v4 = .int .i64 x4_5 ∧ Aside0 (spec_l2Read.j1 kq a0 x4_5 = some (r1, r2)) ∧ Aside0 (kq ≤ kj1) ∧ Aside0 (Below w.heap.size w wc))
   case first =>
    have H := HC6.out
    clear HC6
    by_cases c7 : x14_1 = true
    ·subst c7
     have H1 : (spec_l2Read.j1 kj1 a0 1) = some (r1, r2) := by rw [if_pos rfl] at H; exact H
     clear H
     have H := H1
     clear H1
     have H' := aM_ H
     clear H
     go_wp2
     go_meet
     case rel => exact ⟨_, (1), (by first | rfl | (simp; done) | (simp [*]; done)), H', ⟨by have := HJ1.out; first | omega | exact Nat.le_refl _⟩, ⟨gW_ HB.out⟩⟩
    ·replace c7 := Bool.eq_false_iff.mpr c7
     subst c7
     have H1 : (spec_l2Read.j1 kj1 a0 0) = some (r1, r2) := by rw [if_neg (show ¬ (false = true) by decide)] at H; exact H
     clear H
     have H := H1
     clear H1
     have H' := aM_ H
     clear H
     go_wp2
     go_meet
     case rel => exact ⟨_, (0), (by first | rfl | (simp; done) | (simp [*]; done)), H', ⟨by have := HJ1.out; first | omega | exact Nat.le_refl _⟩, ⟨gW_ HB.out⟩⟩
   case rest =>
    clear HC6
    try clear c1
    try clear p2
    try clear c3
    try clear c3b0
    try clear c3b1
    try clear c4
    try clear c4b0
    try clear c4b1
    try clear p5
    try clear q5
    try clear hx5
    try clear qi5
    try clear c7
    try clear p2
    try clear p5
    try clear q5
    obtain ⟨kq, x4_5, rfl, HA, HJ5, HB⟩ := hcut
    cases kq with
    | zero => exact absurd HA.out (by simp [spec_l2Read.j1])
    | succ kj5 =>
     have H := HA.out
     clear HA
     simp only [spec_l2Read.j1] at H
     have HC8 := aM_ H
     clear H
     go_upto_region 4 with (fail)
     go_cut [25] (fun v25 wc => ∃ (kq : Nat) (x25_7 : Bool), v25 = .bool x25_7 ∧ Aside0 (spec_l2Read.j2 kq a0 x4_5 x25_7 = some (r1, r2)) ∧ Aside0 (kq ≤ kj5) ∧ Aside0 (Below w.heap.size w wc))
     case first =>
      have H := HC8.out
      clear HC8
      by_cases c9 : (a0.size : Int) = x4_5
      ·rw [if_pos c9] at H
       have c9b0 : ((a0.size : Int) == x4_5) = true := beq_iff_eq.mpr c9
       have c9b1 : ((a0.size : Int) != x4_5) = false := bne_eq_false_iff_eq.mpr c9
       clear c9
       (first | rw [c9b0] | (simp only [i64_w, i32_w]; rw [c9b0]) | skip)
       have H' := aM_ H
       clear H
       go_wp2
       go_meet
       case rel => exact ⟨_, (true), (by first | rfl | (simp; done) | (simp [*]; done)), H', ⟨by have := HJ1.out; have := HJ5.out; first | omega | exact Nat.le_refl _⟩, ⟨gW_ HB.out⟩⟩
      ·rw [if_neg c9] at H
       have c9b0 : ((a0.size : Int) == x4_5) = false := beq_eq_false_iff_ne.mpr c9
       have c9b1 : ((a0.size : Int) != x4_5) = true := bne_iff_ne.mpr c9
       (first | rw [c9b0] | (simp only [i64_w, i32_w]; rw [c9b0]) | skip)
       have H' := aM_ H
       clear H
       go_wp2
       go_meet
       case rel => exact ⟨_, (decide ((wrap64 ((a0.size : Int) - x4_5)) > 10)), (by first | rfl | (simp; done) | (simp [*]; done)), H', ⟨by have := HJ1.out; have := HJ5.out; first | omega | exact Nat.le_refl _⟩, ⟨gW_ HB.out⟩⟩
     case rest =>
      clear HC8
      try clear c1
      try clear p2
      try clear c3
      try clear c3b0
      try clear c3b1
      try clear c4
      try clear c4b0
      try clear c4b1
      try clear p5
      try clear q5
      try clear hx5
      try clear qi5
      try clear p6
      try clear c7
      try clear c9
      try clear c9b0
      try clear c9b1
      try clear p2
      try clear p5
      try clear q5
      obtain ⟨kq, x25_7, rfl, HA, HJ7, HB⟩ := hcut
      cases kq with
      | zero => exact absurd HA.out (by simp [spec_l2Read.j2])
      | succ kj7 =>
       have H := HA.out
       clear HA
       simp only [spec_l2Read.j2] at H
       by_cases c10 : x25_7 = true
       ·subst c10
        have H1 : (some (0, false)) = some (r1, r2) := by rw [if_pos rfl] at H; exact H
        clear H
        have H := H1
        clear H1
        simp only [Option.some.injEq, Prod.mk.injEq] at H
        obtain ⟨rfl, rfl⟩ := H
        go_wp2
        go_ret2
        exact fI_ HB.out
       ·replace c10 := Bool.eq_false_iff.mpr c10
        subst c10
        have H1 : (spec_l2Read.l0 kj7 a0 x4_5 0 x4_5) = some (r1, r2) := by rw [if_neg (show ¬ (false = true) by decide)] at H; exact H
        clear H
        have H := H1
        clear H1
        have H' := aM_ H
        clear H
        go_wp2
        go_loopg [5, 6] kj7 (fun kq v5 v6 w' => ∃ (x5_4 : Int) (x6_4 : Int), v5 = .int .i64 x5_4 ∧ v6 = .int .i64 x6_4 ∧ Aside0 (spec_l2Read.l0 kq a0 x4_5 x5_4 x6_4 = some (r1, r2)) ∧ Aside0 (kq ≤ kj7) ∧ Aside0 (Below w.heap.size w w'))
        case atStart => exact ⟨(0), (x4_5), (by first | rfl | (simp; done) | (simp [*]; done)), (by first | rfl | (simp; done) | (simp [*]; done)), H', ⟨Nat.le_refl _⟩, ⟨gW_ HB.out⟩⟩
        case round =>
         clear H'
         try clear c1
         try clear p2
         try clear c3
         try clear c3b0
         try clear c3b1
         try clear c4
         try clear c4b0
         try clear c4b1
         try clear p5
         try clear q5
         try clear hx5
         try clear qi5
         try clear p6
         try clear c7
         try clear c9
         try clear c9b0
         try clear c9b1
         try clear c10
         try clear p2
         try clear p5
         try clear p6
         try clear q5
         obtain ⟨x5_4, x6_4, rfl, rfl, HA, HK4, HB⟩ := hrel
         cases gk with
         | zero => exact absurd HA.out (by simp [spec_l2Read.l0])
         | succ k4 =>
          have H := HA.out
          clear HA
          simp only [spec_l2Read.l0] at H
          by_cases c11 : x6_4 < (a0.size : Int)
          ·rw [if_pos c11] at H
           have c11b0 : decide (x6_4 < (a0.size : Int)) = true := decide_eq_true c11
           clear c11
           by_cases c12 : 0 ≤ x6_4
           ·rw [if_pos c12] at H
            have c12b0 : decide (0 ≤ x6_4) = true := decide_eq_true c12
            clear c12
            by_cases c14 : (bt a0 x6_4) < 48
            ·rw [if_pos c14] at H
             have c14b0 : decide ((bt a0 x6_4) < 48) = true := decide_eq_true c14
             clear c14
             simp only [Option.some.injEq, Prod.mk.injEq] at H
             obtain ⟨rfl, rfl⟩ := H
             have p13 : 0 ≤ (x6_4 : Int) := of_decide_eq_true (by first | (with_reducible assumption) | assumption)
             have q13 : x6_4 < (a0.size : Int) := of_decide_eq_true (by first | (with_reducible assumption) | assumption)
             have hx13 := bt_at a0 x6_4
             replace p13 := eq_true p13
             replace q13 := eq_true q13
             go_wp2
             go_ret2
             exact fI_ HB.out
            ·rw [if_neg c14] at H
             have c14b0 : decide ((bt a0 x6_4) < 48) = false := decide_eq_false c14
             clear c14
             by_cases c16 : (bt a0 x6_4) > 57
             ·rw [if_pos c16] at H
              have c16b0 : decide (57 < (bt a0 x6_4)) = true := decide_eq_true c16
              clear c16
              simp only [Option.some.injEq, Prod.mk.injEq] at H
              obtain ⟨rfl, rfl⟩ := H
              have p13 : 0 ≤ (x6_4 : Int) := of_decide_eq_true (by first | (with_reducible assumption) | assumption)
              have q13 : x6_4 < (a0.size : Int) := of_decide_eq_true (by first | (with_reducible assumption) | assumption)
              have hx13 := bt_at a0 x6_4
              replace p13 := eq_true p13
              replace q13 := eq_true q13
              have p15 : 0 ≤ (x6_4 : Int) := of_decide_eq_true (by first | (with_reducible assumption) | assumption)
              have q15 : x6_4 < (a0.size : Int) := of_decide_eq_true (by first | (with_reducible assumption) | assumption)
              have hx15 := bt_at a0 x6_4
              replace p15 := eq_true p15
              replace q15 := eq_true q15
              go_wp2
              go_ret2
              exact fI_ HB.out
             ·rw [if_neg c16] at H
              have c16b0 : decide (57 < (bt a0 x6_4)) = false := decide_eq_false c16
              clear c16
              have H' := aM_ H
              clear H
              have p13 : 0 ≤ (x6_4 : Int) := of_decide_eq_true (by first | (with_reducible assumption) | assumption)
              have q13 : x6_4 < (a0.size : Int) := of_decide_eq_true (by first | (with_reducible assumption) | assumption)
              have hx13 := bt_at a0 x6_4
              replace p13 := eq_true p13
              replace q13 := eq_true q13
              have p15 : 0 ≤ (x6_4 : Int) := of_decide_eq_true (by first | (with_reducible assumption) | assumption)
              have q15 : x6_4 < (a0.size : Int) := of_decide_eq_true (by first | (with_reducible assumption) | assumption)
              have hx15 := bt_at a0 x6_4
              replace p15 := eq_true p15
              replace q15 := eq_true q15
              have p17 : 0 ≤ (x6_4 : Int) := of_decide_eq_true (by first | (with_reducible assumption) | assumption)
              have q17 : x6_4 < (a0.size : Int) := of_decide_eq_true (by first | (with_reducible assumption) | assumption)
              have hx17 := bt_at a0 x6_4
              replace p17 := eq_true p17
              replace q17 := eq_true q17
              go_wp2
              go_roundg k4
              case measure => have := HJ1.out; have := HJ5.out; have := HJ7.out; have := HK4.out; omega
              case rel => exact ⟨(wrap64 ((wrap64 ((wrap64 (10 * x5_4)) + (wrap64 (bt a0 x6_4)))) - 48)), (wrap64 (x6_4 + 1)), (by first | rfl | (simp; done) | (simp [*]; done)), (by first | rfl | (simp; done) | (simp [*]; done)), H', ⟨by have := HJ1.out; have := HJ5.out; have := HJ7.out; have := HK4.out; omega⟩, ⟨gW_ HB.out⟩⟩
           ·rw [if_neg c12] at H
            exact absurd H (by simp)
          ·rw [if_neg c11] at H
           have c11b0 : decide (x6_4 < (a0.size : Int)) = false := decide_eq_false c11
           clear c11
           by_cases c18 : x4_5 = 1
           ·rw [if_pos c18] at H
            have c18b0 : (x4_5 == 1) = true := beq_iff_eq.mpr c18
            have c18b1 : (x4_5 != 1) = false := bne_eq_false_iff_eq.mpr c18
            clear c18
            replace H := Option.bind_eq_some_iff.mp H
            obtain ⟨t457, A190, H⟩ := H
            replace H : (some (wrap64 (-x5_4), (t457.toList == a0.toList))) = some (r1, r2) := H
            have A19 := aM_ A190
            clear A190
            simp only [Option.some.injEq, Prod.mk.injEq] at H
            obtain ⟨rfl, rfl⟩ := H
            go_wp2_with (first | ((with_reducible refine gate_callee (f := 62) rfl ?_); refine gL_ (some 57) Tryd.func62 #[.int .i64 (wrap64 (-x5_4))] ?_; (with_reducible refine (spec_l2Digits.calls k4 (wrap64 (-x5_4)) t457 _ A19.out).mono ?_); rintro e w20 ⟨rfl, hb⟩; refine ⟨_, rfl, ?_⟩; have n0 := aM_ (sT_ HB.out hb); clear HB; have HB := n0; clear n0))
            go_ret2
            exact fI_ HB.out
           ·rw [if_neg c18] at H
            have c18b0 : (x4_5 == 1) = false := beq_eq_false_iff_ne.mpr c18
            have c18b1 : (x4_5 != 1) = true := bne_iff_ne.mpr c18
            replace H := Option.bind_eq_some_iff.mp H
            obtain ⟨t458, A210, H⟩ := H
            replace H : (some (x5_4, (t458.toList == a0.toList))) = some (r1, r2) := H
            have A21 := aM_ A210
            clear A210
            simp only [Option.some.injEq, Prod.mk.injEq] at H
            obtain ⟨rfl, rfl⟩ := H
            go_wp2_with (first | ((with_reducible refine gate_callee (f := 62) rfl ?_); refine gL_ (some 57) Tryd.func62 #[.int .i64 x5_4] ?_; (with_reducible refine (spec_l2Digits.calls k4 x5_4 t458 _ A21.out).mono ?_); rintro e w22 ⟨rfl, hb⟩; refine ⟨_, rfl, ?_⟩; have n0 := aM_ (sT_ HB.out hb); clear HB; have HB := n0; clear n0))
            go_ret2
            exact fI_ HB.out
end Go.Proofs.YtkjfcmgpplapeaaDoor.PFnInsText
