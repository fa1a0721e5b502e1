/- A part of the proof that the law FnSwap holds for every input: the words, functions and walks that its row needs, without a condition of their own. -/
import Derived.Test.YthbcnakmnbilhaaZFnSwapa2
import Derived.Test.YthbcnakmnbilhaaZFnSwapa3
import Derived.Test.YthbcnakmnbilhaaZFnSwapa4
import Derived.Test.YthbcnakmnbilhaaZFnSwapa5
import Derived.Test.YthbcnakmnbilhaaZFnSwaps
namespace Go.Proofs.Ythbcnakmnbilhaa.PFnSwap
open Go.RowKit Go.Proofs.YthbcnakmnbilhaaW.PrintWords Go.Proofs.YthbcnakmnbilhaaW.PrintLast Go.Proofs.YthbcnakmnbilhaaW.PrintMore Go.Proofs.Ythbcnakmnbilhaa.SepMark
attribute [local go_sem] max2_int min2_int max_two min_two max_three min_three max_four min_four   -- for this text's walks alone
set_option linter.unusedVariables false
set_option linter.unusedSimpArgs false
def spec_l1Below.f (s0_0 : List Int) (s0_1 : Int) (s0_2 : Int) (a1 : Int) : Option (Int × Int × Int) := if a1 ≤ 0 then (some (0, s0_1, s0_2)) else (if a1 ≤ 256 then ((spec_l1Byte.f s0_0 s0_1 s0_2).bind fun bt169 => (if a1 = 0 then (none) else (some (Int.tmod bt169.1 a1, bt169.2.1, bt169.2.2)))) else ((spec_l1Byte.f s0_0 s0_1 s0_2).bind fun bt172 => ((spec_l1Byte.f s0_0 bt172.2.1 bt172.2.2).bind fun bt175 => ((spec_l1Byte.f s0_0 bt175.2.1 bt175.2.2).bind fun bt178 => ((spec_l1Byte.f s0_0 bt178.2.1 bt178.2.2).bind fun bt181 => (if a1 = 0 then (none) else (some (Int.tmod (wrap64 ((wrap64 ((wrap64 ((wrap64 (bt172.1 * 16777216)) + (wrap64 (bt175.1 * 65536)))) + (wrap64 (bt178.1 * 256)))) + bt181.1)) a1, bt181.2.1, bt181.2.2))))))))
set_option maxHeartbeats 8000000 in
set_option maxRecDepth 100000 in
theorem spec_l1Below.calls (g : Nat) (s0_0 : List Int) (s0_1 : Int) (s0_2 : Int) (a1 : Int) (r1 : Int) (r2 : Int) (r3 : Int) (w0 w : World) (hI : IsS119 w0 w g s0_0 s0_1 s0_2) (hB : Below w0.heap.size w0 w) (h : spec_l1Below.f s0_0 s0_1 s0_2 a1 = some (r1, r2, r3)) :
  Calls Try.prog 84 #[.pointer (some ⟨g, 0, none⟩), .int .i64 a1] w fun e w' => e = .returned (.int .i64 r1) ∧ IsS119 w0 w' g s0_0 r2 r3 ∧ Below w0.heap.size w0 w' ∧ KeepBut w w' g none := by
 have HI0 := aM_ hI
 have HK := aM_ (KeepBut.refl w g none)
 have HL := aM_ hB.size
 clear hI
 have HW0 := aM_ hB.size
 have HB := aM_ hB
 clear hB
 have H : (if a1 ≤ 0 then (some (0, s0_1, s0_2)) else (if a1 ≤ 256 then ((spec_l1Byte.f s0_0 s0_1 s0_2).bind fun bt169 => (if a1 = 0 then (none) else (some (Int.tmod bt169.1 a1, bt169.2.1, bt169.2.2)))) else ((spec_l1Byte.f s0_0 s0_1 s0_2).bind fun bt172 => ((spec_l1Byte.f s0_0 bt172.2.1 bt172.2.2).bind fun bt175 => ((spec_l1Byte.f s0_0 bt175.2.1 bt175.2.2).bind fun bt178 => ((spec_l1Byte.f s0_0 bt178.2.1 bt178.2.2).bind fun bt181 => (if a1 = 0 then (none) else (some (Int.tmod (wrap64 ((wrap64 ((wrap64 ((wrap64 (bt172.1 * 16777216)) + (wrap64 (bt175.1 * 65536)))) + (wrap64 (bt178.1 * 256)))) + bt181.1)) a1, bt181.2.1, bt181.2.2))))))))) = some (r1, r2, r3) := h
 clear h
 by_cases c3 : a1 ≤ 0
 ·rw [if_pos c3] at H
  have c3b0 : decide (a1 ≤ 0) = true := decide_eq_true c3
  clear c3
  simp only [Option.some.injEq, Prod.mk.injEq] at H
  obtain ⟨rfl, rfl, rfl⟩ := H
  go_enter Try.func84, Try.ntmps84
  go_wp2
  go_ret
  exact ⟨fR_, gI119_ HI0.out, gB119_ HB.out, gK_ HK.out⟩
 ·rw [if_neg c3] at H
  have c3b0 : decide (a1 ≤ 0) = false := decide_eq_false c3
  clear c3
  by_cases c4 : a1 ≤ 256
  ·rw [if_pos c4] at H
   have c4b0 : decide (a1 ≤ 256) = true := decide_eq_true c4
   clear c4
   replace H := Option.bind_eq_some_iff.mp H
   obtain ⟨⟨t169, t170, t171⟩, A50, H⟩ := H
   replace H : (if a1 = 0 then (none) else (some (Int.tmod t169 a1, t170, t171))) = some (r1, r2, r3) := H
   have A5 := aM_ A50
   clear A50
   by_cases c6 : a1 = 0
   ·rw [if_pos c6] at H
    exact absurd H (by simp)
   ·rw [if_neg c6] at H
    have c6b0 : (a1 == 0) = false := beq_eq_false_iff_ne.mpr c6
    have c6b1 : (a1 != 0) = true := bne_iff_ne.mpr c6
    simp only [Option.some.injEq, Prod.mk.injEq] at H
    obtain ⟨rfl, rfl, rfl⟩ := H
    go_enter Try.func84, Try.ntmps84
    go_wp2_with (first | ((with_reducible refine gate_callee (f := 107) rfl ?_); refine gL_ (some 14) Try.func107 #[.pointer (some ⟨g, 0, none⟩)] ?_; (with_reducible refine (spec_l1Byte.calls g s0_0 s0_1 s0_2 t169 t170 t171 w0 _ ?side1 ?side2 A5.out).mono ?_); (case side1 => exact gI119_ HI0.out); (case side2 => exact gB119_ HB.out); rintro e w7 ⟨rfl, hi, hb, hk⟩; refine ⟨_, rfl, ?_⟩; have n0 := aM_ (KeepBut.trans (gK_ HK.out) hk (.inl rfl)); have n1 := aM_ (hb); have n2 := aM_ (hi); clear HK; clear HB; clear HI0; have HK := n0; have HB := n1; have HI0 := n2; clear n0 n1 n2))
    go_ret
    exact ⟨fR_, gI119_ HI0.out, gB119_ HB.out, gK_ HK.out⟩
  ·rw [if_neg c4] at H
   have c4b0 : decide (a1 ≤ 256) = false := decide_eq_false c4
   clear c4
   replace H := Option.bind_eq_some_iff.mp H
   obtain ⟨⟨t172, t173, t174⟩, A80, H⟩ := H
   replace H : ((spec_l1Byte.f s0_0 t173 t174).bind fun bt175 => ((spec_l1Byte.f s0_0 bt175.2.1 bt175.2.2).bind fun bt178 => ((spec_l1Byte.f s0_0 bt178.2.1 bt178.2.2).bind fun bt181 => (if a1 = 0 then (none) else (some (Int.tmod (wrap64 ((wrap64 ((wrap64 ((wrap64 (t172 * 16777216)) + (wrap64 (bt175.1 * 65536)))) + (wrap64 (bt178.1 * 256)))) + bt181.1)) a1, bt181.2.1, bt181.2.2)))))) = some (r1, r2, r3) := H
   have A8 := aM_ A80
   clear A80
   replace H := Option.bind_eq_some_iff.mp H
   obtain ⟨⟨t175, t176, t177⟩, A90, H⟩ := H
   replace H : ((spec_l1Byte.f s0_0 t176 t177).bind fun bt178 => ((spec_l1Byte.f s0_0 bt178.2.1 bt178.2.2).bind fun bt181 => (if a1 = 0 then (none) else (some (Int.tmod (wrap64 ((wrap64 ((wrap64 ((wrap64 (t172 * 16777216)) + (wrap64 (t175 * 65536)))) + (wrap64 (bt178.1 * 256)))) + bt181.1)) a1, bt181.2.1, bt181.2.2))))) = some (r1, r2, r3) := H
   have A9 := aM_ A90
   clear A90
   replace H := Option.bind_eq_some_iff.mp H
   obtain ⟨⟨t178, t179, t180⟩, A100, H⟩ := H
   replace H : ((spec_l1Byte.f s0_0 t179 t180).bind fun bt181 => (if a1 = 0 then (none) else (some (Int.tmod (wrap64 ((wrap64 ((wrap64 ((wrap64 (t172 * 16777216)) + (wrap64 (t175 * 65536)))) + (wrap64 (t178 * 256)))) + bt181.1)) a1, bt181.2.1, bt181.2.2)))) = some (r1, r2, r3) := H
   have A10 := aM_ A100
   clear A100
   replace H := Option.bind_eq_some_iff.mp H
   obtain ⟨⟨t181, t182, t183⟩, A110, H⟩ := H
   replace H : (if a1 = 0 then (none) else (some (Int.tmod (wrap64 ((wrap64 ((wrap64 ((wrap64 (t172 * 16777216)) + (wrap64 (t175 * 65536)))) + (wrap64 (t178 * 256)))) + t181)) a1, t182, t183))) = some (r1, r2, r3) := H
   have A11 := aM_ A110
   clear A110
   by_cases c12 : a1 = 0
   ·rw [if_pos c12] at H
    exact absurd H (by simp)
   ·rw [if_neg c12] at H
    have c12b0 : (a1 == 0) = false := beq_eq_false_iff_ne.mpr c12
    have c12b1 : (a1 != 0) = true := bne_iff_ne.mpr c12
    simp only [Option.some.injEq, Prod.mk.injEq] at H
    obtain ⟨rfl, rfl, rfl⟩ := H
    go_enter Try.func84, Try.ntmps84
    go_wp2_with (first | ((with_reducible refine gate_callee (f := 107) rfl ?_); refine gL_ (some 18) Try.func107 #[.pointer (some ⟨g, 0, none⟩)] ?_; (with_reducible refine (spec_l1Byte.calls g s0_0 s0_1 s0_2 t172 t173 t174 w0 _ ?side1 ?side2 A8.out).mono ?_); (case side1 => exact gI119_ HI0.out); (case side2 => exact gB119_ HB.out); rintro e w13 ⟨rfl, hi, hb, hk⟩; refine ⟨_, rfl, ?_⟩; have n0 := aM_ (KeepBut.trans (gK_ HK.out) hk (.inl rfl)); have n1 := aM_ (hb); have n2 := aM_ (hi); clear HK; clear HB; clear HI0; have HK := n0; have HB := n1; have HI0 := n2; clear n0 n1 n2) | ((with_reducible refine gate_callee (f := 107) rfl ?_); refine gL_ (some 20) Try.func107 #[.pointer (some ⟨g, 0, none⟩)] ?_; (with_reducible refine (spec_l1Byte.calls g s0_0 t173 t174 t175 t176 t177 w0 _ ?side1 ?side2 A9.out).mono ?_); (case side1 => exact gI119_ HI0.out); (case side2 => exact gB119_ HB.out); rintro e w14 ⟨rfl, hi, hb, hk⟩; refine ⟨_, rfl, ?_⟩; have n0 := aM_ (KeepBut.trans (gK_ HK.out) hk (.inl rfl)); have n1 := aM_ (hb); have n2 := aM_ (hi); clear HK; clear HB; clear HI0; have HK := n0; have HB := n1; have HI0 := n2; clear n0 n1 n2) | ((with_reducible refine gate_callee (f := 107) rfl ?_); refine gL_ (some 22) Try.func107 #[.pointer (some ⟨g, 0, none⟩)] ?_; (with_reducible refine (spec_l1Byte.calls g s0_0 t176 t177 t178 t179 t180 w0 _ ?side1 ?side2 A10.out).mono ?_); (case side1 => exact gI119_ HI0.out); (case side2 => exact gB119_ HB.out); rintro e w15 ⟨rfl, hi, hb, hk⟩; refine ⟨_, rfl, ?_⟩; have n0 := aM_ (KeepBut.trans (gK_ HK.out) hk (.inl rfl)); have n1 := aM_ (hb); have n2 := aM_ (hi); clear HK; clear HB; clear HI0; have HK := n0; have HB := n1; have HI0 := n2; clear n0 n1 n2) | ((with_reducible refine gate_callee (f := 107) rfl ?_); refine gL_ (some 24) Try.func107 #[.pointer (some ⟨g, 0, none⟩)] ?_; (with_reducible refine (spec_l1Byte.calls g s0_0 t179 t180 t181 t182 t183 w0 _ ?side1 ?side2 A11.out).mono ?_); (case side1 => exact gI119_ HI0.out); (case side2 => exact gB119_ HB.out); rintro e w16 ⟨rfl, hi, hb, hk⟩; refine ⟨_, rfl, ?_⟩; have n0 := aM_ (KeepBut.trans (gK_ HK.out) hk (.inl rfl)); have n1 := aM_ (hb); have n2 := aM_ (hi); clear HK; clear HB; clear HI0; have HK := n0; have HB := n1; have HI0 := n2; clear n0 n1 n2))
    go_ret
    exact ⟨fR_, gI119_ HI0.out, gB119_ HB.out, gK_ HK.out⟩
def spec_l1PickInt.f (s0_0 : List Int) (s0_1 : Int) (s0_2 : Int) (l1 : List Int) : Option (Int × Int × Int) := (spec_l1Below.f s0_0 s0_1 s0_2 (l1.length : Int)).bind fun bt184 => (if 0 ≤ bt184.1 then (if bt184.1 < (l1.length : Int) then (some (rd l1 bt184.1, bt184.2.1, bt184.2.2)) else (none)) else (none))
set_option maxHeartbeats 8000000 in
set_option maxRecDepth 100000 in
theorem spec_l1PickInt.calls (g : Nat) (s0_0 : List Int) (s0_1 : Int) (s0_2 : Int) (A1 : Option Addr) (c1 : Nat) (l1 : List Int) (r1 : Int) (r2 : Int) (r3 : Int) (w0 w : World) (hI : IsS119 w0 w g s0_0 s0_1 s0_2) (hB : Below w0.heap.size w0 w) (hr1 : Kd.C (Kd.int .i64) w A1 l1.length l1) (hc1 : l1.length ≤ c1) (hf1 : ∀ ad, A1 = some ad → 0 < l1.length → ad.block ≠ g) (h : spec_l1PickInt.f s0_0 s0_1 s0_2 l1 = some (r1, r2, r3)) :
  Calls Try.prog 66 #[.pointer (some ⟨g, 0, none⟩), .slice A1 l1.length c1] w fun e w' => e = .returned (.int .i64 r1) ∧ IsS119 w0 w' g s0_0 r2 r3 ∧ Below w0.heap.size w0 w' ∧ KeepBut w w' g none := by
 have HR1 := aM_ hr1
 have HC1 := aM_ hc1
 clear hr1 hc1
 have HI0 := aM_ hI
 have HK := aM_ (KeepBut.refl w g none)
 have HL := aM_ hB.size
 clear hI
 have HW0 := aM_ hB.size
 have HB := aM_ hB
 clear hB
 have H : ((spec_l1Below.f s0_0 s0_1 s0_2 (l1.length : Int)).bind fun bt184 => (if 0 ≤ bt184.1 then (if bt184.1 < (l1.length : Int) then (some (rd l1 bt184.1, bt184.2.1, bt184.2.2)) else (none)) else (none))) = some (r1, r2, r3) := h
 clear h
 replace H := Option.bind_eq_some_iff.mp H
 obtain ⟨⟨t184, t185, t186⟩, A30, H⟩ := H
 replace H : (if 0 ≤ t184 then (if t184 < (l1.length : Int) then (some (rd l1 t184, t185, t186)) else (none)) else (none)) = some (r1, r2, r3) := H
 have A3 := aM_ A30
 clear A30
 by_cases c4 : 0 ≤ t184
 ·rw [if_pos c4] at H
  have c4b0 : decide (0 ≤ t184) = true := decide_eq_true c4
  clear c4
  by_cases c5 : t184 < (l1.length : Int)
  ·rw [if_pos c5] at H
   have c5b0 : decide (t184 < (l1.length : Int)) = true := decide_eq_true c5
   clear c5
   simp only [Option.some.injEq, Prod.mk.injEq] at H
   obtain ⟨rfl, rfl, rfl⟩ := H
   go_enter Try.func66, Try.ntmps66
   go_wp2_with (first | ((with_reducible refine gate_callee (f := 84) rfl ?_); refine gL_ (some 9) Try.func84 #[.pointer (some ⟨g, 0, none⟩), .int .i64 (l1.length : Int)] ?_; (with_reducible refine (spec_l1Below.calls g s0_0 s0_1 s0_2 (l1.length : Int) t184 t185 t186 w0 _ ?side1 ?side2 A3.out).mono ?_); (case side1 => exact gI119_ HI0.out); (case side2 => exact gB119_ HB.out); rintro e w6 ⟨rfl, hi, hb, hk⟩; refine ⟨_, rfl, ?_⟩; have n0 := aM_ (KeepBut.trans (gK_ HK.out) hk (.inl rfl)); have n1 := aM_ (hb); have n2 := aM_ (hi); clear HK; clear HB; clear HI0; have HK := n0; have HB := n1; have HI0 := n2; clear n0 n1 n2; have p187 : 0 ≤ (t184 : Int) := of_decide_eq_true (by first | (with_reducible assumption) | assumption); have q187 : t184 < (l1.length : Int) := of_decide_eq_true (by first | (with_reducible assumption) | assumption); obtain ⟨ad187, e187, hx187_0⟩ := Kd.at_int HR1.out t184 p187 q187; cases e187; replace hx187_0 := keep_cell HK.out hx187_0 (by first | (rw [add_block]; exact hf1 _ rfl (by omega)) | exact hf1 _ rfl (by omega) | exact hf1 ad187 rfl (by omega)); replace p187 := eq_true p187; replace q187 := eq_true q187))
   go_ret
   exact ⟨fR_, gI119_ HI0.out, gB119_ HB.out, gK_ HK.out⟩
  ·rw [if_neg c5] at H
   exact absurd H (by simp)
 ·rw [if_neg c4] at H
  exact absurd H (by simp)
def spec_MemoryNew.l0 : Nat → Int → List (List (S43)) → Option ((List (List (S43))))
  | 0, _, _ => none
  | k + 1, x2, x190000 => if x2 < 24 then (if 24 ≤ 35184372088832 then (if x190000.length < 5864062014805 then (spec_MemoryNew.l0 k (wrap64 (x2 + 1)) (x190000 ++ [(([(⟨0, (List.replicate 24 0)⟩ : S43)] : List (S43)))])) else (none)) else (none)) else (some x190000)
def spec_MemoryNew.f (k : Nat)  : Option ((List (List (S43)))) := spec_MemoryNew.l0 k 0 ([] : List (List (S43)))
def spec_MemoryNew.T5 : Bool × List (List Nat × List Nat) := (true, [([], []), ([0], [0]), ([], []), ([2], [2]), ([3], [3]), ([4], [4]), ([1, 5], [1, 5]), ([0, 1, 2, 3, 4, 5, 6], []), ([7, 6, 6, 0, 1, 2, 3, 4, 5, 6], [6, 7])])
def spec_MemoryNew.B5 : List Nat := [0, 1, 0, 4, 12, 28, 63, 127, 255]
theorem spec_MemoryNew.tab5 : rtab .any (opsOf Try.f13 5) = spec_MemoryNew.T5 := by kernel_rfl
theorem spec_MemoryNew.bits5 : waitsOk spec_MemoryNew.T5.2 spec_MemoryNew.B5 = true := by kernel_rfl
set_option maxHeartbeats 8000000 in
set_option maxRecDepth 100000 in
theorem spec_MemoryNew.calls (k : Nat)  (r : List (List (S43))) (w : World) (h : spec_MemoryNew.f k  = some r) :
  Calls Try.prog 13 #[] w fun e w' => ∃ v0_ : Value, e = .returned (.agg #[v0_]) ∧ Kd.S (sslice 43 k43) 44 w' w.heap.size (fun k_ => (w.heap.size ≤ k_)) v0_ r ∧ Below w.heap.size w w' := by
 have hu24 := Try.underlying24
 have hu43 := Try.underlying43
 have HB := aM_ (Below.refl w.heap.size w)
 have H : (spec_MemoryNew.l0 k 0 ([] : List (List (S43)))) = some r := h
 clear h
 have H' := aM_ H
 clear H
 go_enter Try.func13, Try.ntmps13
 go_wp2_with (first | ((with_reducible refine gate_dst (N := 0) rfl ?_); refine bX_ 0 (cs := #[.slice none 0 0]) (t := 24) ?_; intro gb188 hg w1 hbox hb; have n0 := aM_ (sT_ HB.out hb); have n1 := aM_ (hbox); have n2 := aM_ (sZ_ hg HB.out); have n3 := aM_ (sZ_ hg HB.out); clear HB; have HB := n0; have BK188 := n1; have GW188 := n2; have GE188 := n3; clear n0 n1 n2 n3; clear hb hbox hg) | ((with_reducible refine gate_dst (N := 1) rfl ?_); refine bX_ 1 (cs := #[.slice none 0 0]) (t := 24) ?_; intro gb189 hg w2 hbox hb; have n0 := aM_ (nB_ BK188.out hb); have n1 := aM_ (sT_ HB.out hb); have n2 := aM_ (hbox); have n3 := aM_ (sZ_ hg HB.out); have n4 := aM_ (sZ_ hg HB.out); have n5 := aM_ (nL_ hg BK188.out); have n6 := aM_ (nG_ hg BK188.out); clear BK188; clear HB; have BK188 := n0; have HB := n1; have BK189 := n2; have GW189 := n3; have GE189 := n4; have NB188_189 := n5; have NB189_188 := n6; clear n0 n1 n2 n3 n4 n5 n6; clear hb hbox hg; have hnb3 := NB189_188.out; have hnc3 := NB188_189.out; have hcz4_0 : w2.cell? ⟨gb189, 0, none⟩ = some (.slice none 0 0) := (blk_cell BK189.out 0).trans rfl; have hfz4_0 := blk_frozen BK189.out 0))
 go_loopg [2] k (fun kq v2 w' => ∃ (x2_1 : Int) (x1900_1 : List (List (S43))) (u1900 : Value), v2 = .int .i64 x2_1 ∧ Aside0 (spec_MemoryNew.l0 kq x2_1 x1900_1 = some r) ∧ Aside0 (kq ≤ k) ∧ Aside0 (Kd.S (sslice 43 k43) 44 w' w.heap.size (fun k_ => (w.heap.size ≤ k_) ∧ k_ ≠ gb188 ∧ k_ ≠ gb189) u1900 x1900_1) ∧ Aside0 (w'.heap[gb188]? = some (.cells #[(.slice none 0 0)] 24 (0, 0))) ∧ Aside0 (w'.heap[gb189]? = some (.cells #[u1900] 24 (0, 0))) ∧ Aside0 (Below w.heap.size w w'))
 case atStart => exact ⟨(0), (([] : List (List (S43)))), (.slice none 0 0), (by first | rfl | (simp; done) | (simp [*]; done)), H', ⟨Nat.le_refl _⟩, ⟨by first | exact Kd.R_nil _ _ _ _ _ | exact Kd.S_nil _ _ _ _ _ | exact Kd.V_nil _ _ _ _ _ | exact Kd.Q_nil _ _ _ _ _ | exact Kd.S_nil _ _ _ _ _⟩, ⟨by (with_reducible repeat (first | refine bN_ ?_ _ | refine bD_ ?_ | refine bA_ ?_ _)); refine blk_far ?_ NB188_189.out _; (with_reducible repeat (first | refine bN_ ?_ _ | refine bD_ ?_ | refine bA_ ?_ _)); exact BK188.out⟩, ⟨by (with_reducible repeat (first | refine bN_ ?_ _ | refine bD_ ?_ | refine bA_ ?_ _)); refine blk_put (cs := #[.slice none 0 0]) ?_ 0 _ rfl; (with_reducible repeat (first | refine bN_ ?_ _ | refine bD_ ?_ | refine bA_ ?_ _)); exact BK189.out⟩, ⟨gW_ HB.out⟩⟩
 case round =>
  clear H'
  try clear c1
  try clear p2
  try clear c3
  try clear hcz4_0 hfz4_0
  obtain ⟨x2_1, x1900_1, u1900, rfl, HA, HK1, HO_190000, BK188, BK189, HB⟩ := hrel
  cases gk with
  | zero => exact absurd HA.out (by simp [spec_MemoryNew.l0])
  | succ k1 =>
   have H := HA.out
   clear HA
   simp only [spec_MemoryNew.l0] at H
   by_cases c5 : x2_1 < 24
   ·rw [if_pos c5] at H
    have c5b0 : decide (x2_1 < 24) = true := decide_eq_true c5
    clear c5
    by_cases c6 : 24 ≤ 35184372088832
    ·rw [if_pos c6] at H
     have c6b0 := eq_true c6
     have c6b1 : decide (24 ≤ 35184372088832) = true := decide_eq_true c6
     clear c6
     obtain ⟨y190, hy190⟩ : ∃ y_ : List Int, y_ = (List.replicate 24 0) := ⟨_, rfl⟩
     replace H : (if x1900_1.length < 5864062014805 then (spec_MemoryNew.l0 k1 (wrap64 (x2_1 + 1)) (x1900_1 ++ [(([(⟨0, y190⟩ : S43)] : List (S43)))])) else (none)) = some r := by first | (rw [hy190]; with_reducible exact H) | (have H2_ := (Option.bind_some _ _).symm.trans H; rw [hy190]; with_reducible exact H2_) | (have H2_ := (Option.bind_some _ _).symm.trans H; with_reducible exact H2_) | with_reducible exact H | (rw [hy190]; exact H) | exact H
     have Ny190 := aM_ hy190
     clear hy190
     obtain ⟨y193, hy193⟩ : ∃ y_ : List (S43), y_ = (([(⟨0, y190⟩ : S43)] : List (S43))) := ⟨_, rfl⟩
     replace H : (if x1900_1.length < 5864062014805 then (spec_MemoryNew.l0 k1 (wrap64 (x2_1 + 1)) (x1900_1 ++ [y193])) else (none)) = some r := by first | (rw [hy193]; with_reducible exact H) | (have H2_ := (Option.bind_some _ _).symm.trans H; rw [hy193]; with_reducible exact H2_) | (have H2_ := (Option.bind_some _ _).symm.trans H; with_reducible exact H2_) | with_reducible exact H | (rw [hy193]; exact H) | exact H
     have Ny193 := aM_ hy193
     clear hy193
     by_cases c7 : x1900_1.length < 5864062014805
     ·rw [if_pos c7] at H
      have LMc7 := aM_ c7
      clear c7
      obtain ⟨y196, hy196⟩ : ∃ y_ : List (List (S43)), y_ = (x1900_1 ++ [y193]) := ⟨_, rfl⟩
      replace H : (spec_MemoryNew.l0 k1 (wrap64 (x2_1 + 1)) y196) = some r := by first | (rw [hy196]; with_reducible exact H) | (have H2_ := (Option.bind_some _ _).symm.trans H; rw [hy196]; with_reducible exact H2_) | (have H2_ := (Option.bind_some _ _).symm.trans H; with_reducible exact H2_) | with_reducible exact H | (rw [hy196]; exact H) | exact H
      have Ny196 := aM_ hy196
      clear hy196
      have H' := aM_ H
      clear H
      try go_wp2
      have n0 := aM_ (Kd.S_drew HO_190000.out)
      have n1 := aM_ (blk_drew BK188.out)
      have n2 := aM_ (blk_drew BK189.out)
      have n3 := aM_ (below_drew1 HB.out)
      clear HO_190000
      clear BK188
      clear BK189
      clear HB
      have HO_190000 := n0
      have BK188 := n1
      have BK189 := n2
      have HB := n3
      clear n0 n1 n2 n3
      refine start_ (n := 9) (S := fun w' => w'.cell? ⟨gb189, 0, none⟩ = some (u1900)) (ds := [8]) #[false, false, false, false, false, false, false, false, false] (by kernel_rfl) rfl rfl ((blk_cell BK189.out 0).trans rfl) (fun hHeld => ?_); refine with_tabW spec_MemoryNew.tab5 spec_MemoryNew.bits5 (fun HT_ HW_ => ?_)
      generalize wr.drew = w8 at HO_190000 BK188 BK189 HB hHeld ⊢
      have HF := aM_ (show ∀ k, w8.heap.size ≤ k → (w.heap.size ≤ k ∧ k ≠ gb188 ∧ k ≠ gb189) ∧ some k ≠ (u1900 : Value).ownBlock from fun k hk => ⟨⟨Nat.le_trans (below_size HB.out) hk, fun e => by have := blk_lt BK188.out; omega, fun e => by have := blk_lt BK189.out; omega⟩, fun e => by have := Kd.S_lt HO_190000.out k e.symm; omega⟩)
      replace HO_190000 := aM_ (Kd.S_mono (ok' := fun k_ => ((w.heap.size ≤ k_) ∧ k_ ≠ gb188 ∧ k_ ≠ gb189) ∧ k_ < w8.heap.size) (Kd.S_bound HO_190000.out) (fun k hk => ⟨hk.1, hk.2.2.1⟩))
      refine pU_ 0 (some 8) (mk_ 9 1) ?_
      refine take_ (i := 1) (N := some 9) (v := ?_) (a' := ?_) #[true, true, false, false, false, false, false, false, false] rfl rfl (take_ofW HT_.out HW_.out (by kernel_rfl)) (fun _ _ _ h => h) (Or.inl ⟨by rfl, ?_⟩) hHeld ?_ ?_
      rotate_left
      ·intro w' s0
       go_simp
       with_reducible rfl
      rotate_left
      ·simp only [pt_, pn_, sI_, s0_, s1_, i64_w, i32_w]
       rfl
      refine oN_ 2 (some 10) (mk_ 9 7) (fun K hK => ?_)
      refine Kd.R_make_step (Kd.int .i64) _ 3 (by rfl) (N := 10) rfl 31 _ _ rfl 24 rfl rfl Try.underlying31 (.int .i64 0) 8 info3 rfl (by decide) (by omega) 0 (ok := fun _ => True) (okp := fun _ => True) rfl (fun _ hk => hk) trivial (by omega) (by omega) (Below.refl _ _) (Nat.le_refl _) ?_
      intro v191 w9 ho10 hb hg_ hnew_
      have HS9 := aM_ hb.size
      clear hg_ hnew_
      (first | rw [← Ny190.out] at ho10 | (simp only [Int.reduceToNat] at ho10; rw [← Ny190.out] at ho10))
      have n0 := aM_ (Kd.S_elder' (by (with_reducible repeat (first | apply Kd.S_alloc | apply Kd.S_drewN | apply Kd.S_drew)); exact HO_190000.out) (Kd.R_base ho10) hb)
      have n1 := aM_ (Kd.R_lower (Kd.R_newM (M := fun k_ => (w8.heap.size ≤ k_)) ho10 (Nat.le_refl _) (fun k_ h_ => h_)) (below_size (gB_ HB.out)))
      have n2 := aM_ (nB_ BK188.out hb)
      have n3 := aM_ (nB_ BK189.out hb)
      have n4 := aM_ (sT_ HB.out hb)
      clear HO_190000
      clear BK188
      clear BK189
      clear HB
      have HO_190000 := n0
      have HO192 := n1
      have BK188 := n2
      have BK189 := n3
      have HB := n4
      clear n0 n1 n2 n3 n4
      clear hb ho10
      obtain ⟨Ao11, co11, eo11⟩ := Kd.R_slice HO192.out
      (first | subst eo11 | (injection eo11 with f1_ f2_ f3_; have f4_ := f1_.symm; have f5_ := f3_.symm; clear f1_ f2_ f3_; subst f4_; subst f5_))
      refine hK.out _ _ ((blk_cell BK189.out 0).trans rfl) (fun hHeld => ?_)
      clear hK K
      refine norm_ (a' := ?_) ?_ ?_
      rotate_left
      ·show Act.put _ (some 10) _ = _
       simp only [pt_, pn_, sI_, s0_, s1_, i64_w, i32_w]
       rfl
      refine pU_ 3 (some 11) (mk_ 9 15) ?_
      refine oN_ 4 (some 12) (mk_ 9 31) (fun K hK => ?_)
      refine Kd.R_lit_step k43 w.heap.size 43 ?hg (N := 12) ?hd (xs := ([(⟨0, y190⟩ : S43)] : List (S43))) (inner := [.int .i64 0, .slice Ao11 y190.length co11]) (ok := (fun k_ => (w8.heap.size ≤ k_))) (okp := (fun k_ => (w8.heap.size ≤ k_))) ?hr ?hp (fun _ hk => hk) (HS9.out) (Below.refl _ _) (below_size (gB_ HB.out)) (by simp) ?_; (case hd => rfl); (case hg => rfl); (case hr => first | (go_simp; done) | (go_simp; rfl)); (case hp => exact (Reps.c2 (show k43.M _ _ _ (⟨0, y190⟩ : S43) [.int .i64 0, .slice Ao11 y190.length co11] from k43_mkM _ _ _ (⟨0, y190⟩ : S43) (Kd.R_mono HO192.out (fun _ hk => hk.1))) (Reps.none _ _)))
      intro v194 w12 ho13 hb0_ hg_ hnew_
      have hb : Below w9.heap.size w9 w12 := (Below.refl w9.heap.size w9).grown hg_ (Nat.le_refl _) (by simp)
      replace ho13 := S_one ho13
      have hbs_ : ∀ k, v194.ownBlock = some k → w9.heap.size ≤ k := fun k hk => by obtain ⟨b, h1, h2⟩ := hnew_; rw [h1] at hk; cases hk; exact h2
      clear hb0_ hg_ hnew_
      (first | rw [← Ny193.out] at ho13 | (simp only [Int.reduceToNat] at ho13; rw [← Ny193.out] at ho13))
      have n0 := aM_ (Kd.S_elder' (by (with_reducible repeat (first | apply Kd.S_alloc | apply Kd.S_drewN | apply Kd.S_drew)); exact HO_190000.out) hbs_ hb)
      have n1 := aM_ (Kd.S_lower ho13 (Nat.le_refl _))
      have n2 := aM_ (nB_ BK188.out hb)
      have n3 := aM_ (nB_ BK189.out hb)
      have n4 := aM_ (sT_ HB.out hb)
      clear HO_190000
      clear BK188
      clear BK189
      clear HB
      clear HO192
      have HO_190000 := n0
      have HO195 := n1
      have BK188 := n2
      have BK189 := n3
      have HB := n4
      clear n0 n1 n2 n3 n4
      clear hb ho13
      obtain ⟨Ao15, co15, eo15⟩ := Kd.S_slice HO195.out
      (first | subst eo15 | (injection eo15 with f1_ f2_ f3_; have f4_ := f1_.symm; have f5_ := f3_.symm; clear f1_ f2_ f3_; subst f4_; subst f5_))
      refine hK.out _ _ ((blk_cell BK189.out 0).trans rfl) (fun hHeld => ?_)
      clear hK K
      refine norm_ (a' := ?_) ?_ ?_
      rotate_left
      ·show Act.put _ (some 12) _ = _
       simp only [pt_, pn_, sI_, s0_, s1_, i64_w, i32_w]
       rfl
      refine oN_ 5 (some 13) (mk_ 9 63) (fun K hK => ?_)
      refine value_ (w1 := ?_) (v := ?_) (by rfl) rfl ?_ ?_
      rotate_left 2
      ·go_simp
       constructor
       ·rfl
       ·rfl
      refine hK.out _ _ ((blk_cell (blk_alloc BK189.out _) 0).trans rfl) (fun hHeld => ?_)
      clear hK K
      refine norm_ (a' := ?_) ?_ ?_
      rotate_left
      ·show Act.put _ (some 13) _ = _
       simp only [pt_, pn_, sI_, s0_, s1_, i64_w, i32_w]
       rfl
      refine oN_ 6 (some 14) (mk_ 9 127) (fun K hK => ?_)
      refine Kd.S_append_step (sslice 43 k43) (w0 := w) w.heap.size (by rfl) (.tmp 9) (.tmp 13) 22 44 (.slice none 0 0) 24 rfl Try.underlying22 info44 rfl (by decide) (by omega) u1900 x1900_1 y193 [.slice Ao15 y193.length co15] (fun k_ => (w.heap.size ≤ k_) ∧ k_ ≠ gb188 ∧ k_ ≠ gb189) (fun k_ => (w8.heap.size ≤ k_)) rfl rfl ?aP HF.out ?aF ?aO ?aB ?aS ?aL ?_
      (case aP => exact ⟨_, rfl, HO195.out⟩)
      (case aB => exact (gB_ HB.out))
      (case aF => exact (fun k_ hk => ⟨(Nat.le_trans (below_size (gB_ HB.out)) hk), Kd.freshB (g := gb188) (o := .cells #[.slice none 0 0] 24 (0, 0)) (by (with_reducible repeat (first | refine bN_ ?_ _ | refine bD_ ?_ | refine bA_ ?_ _)); exact BK188.out) k_ hk, Kd.freshB (g := gb189) (o := .cells #[u1900] 24 (0, 0)) (by (with_reducible repeat (first | refine bN_ ?_ _ | refine bD_ ?_ | refine bA_ ?_ _)); exact BK189.out) k_ hk⟩))
      (case aO => exact Kd.S_mono HO_190000.out (fun _ hk => ⟨hk.1.1.1, fun h => absurd h (Nat.not_le.2 hk.1.1.2)⟩))
      (case aS => exact (below_size (gB_ HB.out)))
      (case aL => have := LMc7.out; omega)
      intro v197 w14 ho hb hg hat
      rw [← Ny196.out] at ho
      have n0 := aM_ (blk_grown (g := gb188) (o := .cells #[.slice none 0 0] 24 (0, 0)) (by (with_reducible repeat (first | refine bN_ ?_ _ | refine bD_ ?_ | refine bA_ ?_ _)); exact BK188.out) hg (Kd.S_ne HO_190000.out BK188.out (by decide)))
      have n1 := aM_ (blk_grown (g := gb189) (o := .cells #[u1900] 24 (0, 0)) (by (with_reducible repeat (first | refine bN_ ?_ _ | refine bD_ ?_ | refine bA_ ?_ _)); exact BK189.out) hg (Kd.S_ne HO_190000.out BK189.out (by decide)))
      have n2 := aM_ (hb)
      have n3 := aM_ (ho)
      clear BK188
      clear BK189
      clear HB
      clear HO_190000
      clear HO195
      have BK188 := n0
      have BK189 := n1
      have HB := n2
      have HO198 := n3
      clear n0 n1 n2 n3
      clear ho hb hg hat
      obtain ⟨Ao16, co16, eo16⟩ := Kd.S_slice HO198.out
      (first | subst eo16 | (injection eo16 with f1_ f2_ f3_; have f4_ := f1_.symm; have f5_ := f3_.symm; clear f1_ f2_ f3_; subst f4_; subst f5_))
      refine hK.out _ _ ((blk_cell BK189.out 0).trans rfl) (fun hHeld => ?_)
      clear hK K
      refine norm_ (a' := ?_) ?_ ?_
      rotate_left
      ·show Act.put _ (some 14) _ = _
       simp only [pt_, pn_, sI_, s0_, s1_, i64_w, i32_w]
       rfl
      refine pU_ 7 (some 15) (mk_ 9 255) ?_
      refine last_ (i := 8) (N := none) #[true, true, true, true, true, true, true, true, true] rfl rfl (one_of HT_.out (by kernel_rfl)) (by decide) (fun K hK => ?_)
      have hs17 : w14.cell? ⟨gb189, 0, none⟩ = some (u1900) := (blk_cell BK189.out 0).trans rfl
      have hfs17 := blk_frozen BK189.out 0
      have hns17_0 := NB188_189.out
      have hms17_0 := NB189_188.out
      refine skip_ (w1 := ?_) (by rfl) rfl ?_ ?_
      rotate_left
      ·go_simp
       rfl
      refine hK.out _ _ ?_
      clear hK K
      refine done_ (done_of HT_.out (by kernel_rfl)) ?_
      try go_wp2
      go_roundg k1
      case measure => have := HK1.out; omega
      case rel => exact ⟨(wrap64 (x2_1 + 1)), (y196), (.slice Ao16 y196.length co16), (by first | rfl | (simp; done) | (simp [*]; done)), H', ⟨by have := HK1.out; omega⟩, ⟨by (with_reducible repeat (first | apply Kd.S_alloc | apply Kd.S_drewN | apply Kd.S_drew)); exact Kd.S_mono (Kd.S_far (p := ⟨gb189, 0, none⟩) (Kd.S_mono HO198.out (fun k_ hk => (⟨hk, hk.2.2⟩ : _ ∧ k_ ≠ gb189))) (fun _ hk => hk.2) (.slice Ao16 y196.length co16)) (fun _ hk => ⟨hk.1.1, ⟨hk.1.2.1, hk.1.2.2⟩⟩)⟩, ⟨by (with_reducible repeat (first | refine bN_ ?_ _ | refine bD_ ?_ | refine bA_ ?_ _)); refine blk_far ?_ NB188_189.out _; (with_reducible repeat (first | refine bN_ ?_ _ | refine bD_ ?_ | refine bA_ ?_ _)); exact BK188.out⟩, ⟨by (with_reducible repeat (first | refine bN_ ?_ _ | refine bD_ ?_ | refine bA_ ?_ _)); refine blk_put (cs := #[u1900]) ?_ 0 _ rfl; (with_reducible repeat (first | refine bN_ ?_ _ | refine bD_ ?_ | refine bA_ ?_ _)); exact BK189.out⟩, ⟨gW_ HB.out⟩⟩
     ·rw [if_neg c7] at H
      exact absurd H (by simp)
    ·rw [if_neg c6] at H
     exact absurd H (by simp)
   ·rw [if_neg c5] at H
    have c5b0 : decide (x2_1 < 24) = false := decide_eq_false c5
    clear c5
    obtain rfl := Option.some.inj H
    have hnb18 := NB189_188.out
    have hnc18 := NB188_189.out
    have hcz19_0 : wr.cell? ⟨gb189, 0, none⟩ = some (u1900) := (blk_cell BK189.out 0).trans rfl
    have hfz19_0 := blk_frozen BK189.out 0
    obtain ⟨Ao20, co20, eo20⟩ := Kd.S_slice HO_190000.out
    subst eo20
    have hcz21_0 : wr.cell? ⟨gb188, 0, none⟩ = some (.slice none 0 0) := (blk_cell BK188.out 0).trans rfl
    have hfz21_0 := blk_frozen BK188.out 0
    go_wp2
    refine bodyPost_ret (results_cell_row rfl _ _ gb188 24 #[.slice Ao20 x1900_1.length co20] (0, 0) _ rfl (by (with_reducible repeat (first | refine bN_ ?_ _ | refine bD_ ?_ | refine bA_ ?_ _)); refine blk_put (cs := #[.slice none 0 0]) ?_ 0 _ rfl; exact rW_ BK188.out) Try.underlying24 rfl (by kernel_rfl)) rfl ?_
    exact ⟨_, fR_, by (with_reducible repeat (first | apply Kd.S_alloc | apply Kd.S_drewN | apply Kd.S_drew)); exact Kd.S_mono (Kd.S_far (p := ⟨gb188, 0, none⟩) (Kd.S_mono HO_190000.out (fun k_ hk => (⟨hk, hk.2.1⟩ : _ ∧ k_ ≠ gb188))) (fun _ hk => hk.2) (.slice Ao20 x1900_1.length co20)) (fun _ hk => hk.1.1), gB_ HB.out⟩
def spec_l6Right.f (k : Nat) (l0_0 : List (List (S43))) (l1 : List Int) (a2 : Int) : Option (Bool) := (spec_MemoryOk.f k l0_0).bind fun t200 => (if t200 = true then ((spec_ViewOk.f k l0_0 l1).bind fun t201 => (if t201 = true then ((spec_l1In.f a2 0 23).bind fun t202 => (some t202)) else (some false))) else (some false))
set_option maxHeartbeats 8000000 in
set_option maxRecDepth 100000 in
theorem spec_l6Right.calls (k : Nat) (A0_0 : Option Addr) (c0_0 : Nat) (l0_0 : List (List (S43))) (A1 : Option Addr) (c1 : Nat) (l1 : List Int) (a2 : Int) (r : Bool) (w : World) (hr0_0 : Kd.C (Kd.slice 43 k43) w A0_0 l0_0.length l0_0) (hc0_0 : l0_0.length ≤ c0_0) (hr1 : Kd.C (Kd.int .i64) w A1 l1.length l1) (hc1 : l1.length ≤ c1) (h : spec_l6Right.f k l0_0 l1 a2 = some r) :
  Calls Try.prog 61 #[.agg #[.slice A0_0 l0_0.length c0_0], .slice A1 l1.length c1, .int .i64 a2] w fun e w' => e = .returned (.bool r) ∧ Below w.heap.size w w' := by
 have hu24 := Try.underlying24
 have HR0_0 := aM_ hr0_0
 have HC0_0 := aM_ hc0_0
 clear hr0_0 hc0_0
 have HR1 := aM_ hr1
 have HC1 := aM_ hc1
 clear hr1 hc1
 have HB := aM_ (Below.refl w.heap.size w)
 have H : ((spec_MemoryOk.f k l0_0).bind fun t200 => (if t200 = true then ((spec_ViewOk.f k l0_0 l1).bind fun t201 => (if t201 = true then ((spec_l1In.f a2 0 23).bind fun t202 => (some t202)) else (some false))) else (some false))) = some r := h
 clear h
 replace H := Option.bind_eq_some_iff.mp H
 obtain ⟨t200, A40, H⟩ := H
 replace H : (if t200 = true then ((spec_ViewOk.f k l0_0 l1).bind fun t201 => (if t201 = true then ((spec_l1In.f a2 0 23).bind fun t202 => (some t202)) else (some false))) else (some false)) = some r := H
 have A4 := aM_ A40
 clear A40
 by_cases c5 : t200 = true
 ·subst c5
  have H1 : ((spec_ViewOk.f k l0_0 l1).bind fun t201 => (if t201 = true then ((spec_l1In.f a2 0 23).bind fun t202 => (some t202)) else (some false))) = some r := by rw [if_pos rfl] at H; exact H
  clear H
  have H := H1
  clear H1
  replace H := Option.bind_eq_some_iff.mp H
  obtain ⟨t201, A60, H⟩ := H
  replace H : (if t201 = true then ((spec_l1In.f a2 0 23).bind fun t202 => (some t202)) else (some false)) = some r := H
  have A6 := aM_ A60
  clear A60
  by_cases c7 : t201 = true
  ·subst c7
   have H1 : ((spec_l1In.f a2 0 23).bind fun t202 => (some t202)) = some r := by rw [if_pos rfl] at H; exact H
   clear H
   have H := H1
   clear H1
   replace H := Option.bind_eq_some_iff.mp H
   obtain ⟨t202, A80, H⟩ := H
   replace H : (some t202) = some r := H
   have A8 := aM_ A80
   clear A80
   obtain rfl := Option.some.inj H
   go_enter Try.func61, Try.ntmps61
   go_wp2_with (first | ((with_reducible refine gate_dst (N := 3) rfl ?_); refine bX_ 3 (cs := #[.slice A0_0 l0_0.length c0_0]) (t := 24) ?_; intro gb199 hg w9 hbox hb; have n0 := aM_ (sT_ HB.out hb); have n1 := aM_ (hbox); have n2 := aM_ (sZ_ hg HB.out); have n3 := aM_ (sZ_ hg HB.out); clear HB; have HB := n0; have BK199 := n1; have GW199 := n2; have GE199 := n3; clear n0 n1 n2 n3; clear hb hbox hg; have hcz10_0 : w9.cell? ⟨gb199, 0, none⟩ = some (.slice A0_0 l0_0.length c0_0) := (blk_cell BK199.out 0).trans rfl; have hfz10_0 := blk_frozen BK199.out 0) | ((with_reducible refine gate_callee (f := 27) rfl ?_); refine gL_ (some 8) Try.func27 #[.agg #[.slice A0_0 l0_0.length c0_0]] ?_; (with_reducible refine (spec_MemoryOk.calls k _ _ l0_0 true _ ?side1 ?side2 A4.out).mono ?_); (case side1 => exact cS_ (Kd.C_below HR0_0.out HB.out)); (case side2 => exact HC0_0.out); rintro e w11 ⟨rfl, hb⟩; refine ⟨_, rfl, ?_⟩; have n0 := aM_ (nB_ BK199.out hb); have n1 := aM_ (sT_ HB.out hb); clear BK199; clear HB; have BK199 := n0; have HB := n1; clear n0 n1; have hcz12_0 : w11.cell? ⟨gb199, 0, none⟩ = some (.slice A0_0 l0_0.length c0_0) := (blk_cell BK199.out 0).trans rfl; have hfz12_0 := blk_frozen BK199.out 0) | (go_at_call 29; (with_reducible refine (spec_ViewOk.calls k _ _ l0_0 _ _ l1 true _ ?side1 ?side2 ?side3 ?side4 A6.out).mono ?_); (case side1 => exact cS_ (Kd.C_below HR0_0.out HB.out)); (case side2 => exact HC0_0.out); (case side3 => exact cS_ (Kd.C_below HR1.out HB.out)); (case side4 => exact HC1.out); rintro e w13 ⟨rfl, hb⟩; have n0 := aM_ (nB_ BK199.out hb); have n1 := aM_ (sT_ HB.out hb); clear BK199; clear HB; have BK199 := n0; have HB := n1; clear n0 n1) | (go_at_call 69; (with_reducible refine (spec_l1In.calls a2 0 23 t202 _ A8.out).mono ?_); rintro e w' ⟨rfl, ⟨nd, rfl⟩⟩))
   go_ret
   exact fI_ HB.out
  ·replace c7 := Bool.eq_false_iff.mpr c7
   subst c7
   have H1 : (some false) = some r := by rw [if_neg (show ¬ (false = true) by decide)] at H; exact H
   clear H
   have H := H1
   clear H1
   obtain rfl := Option.some.inj H
   go_enter Try.func61, Try.ntmps61
   go_wp2_with (first | ((with_reducible refine gate_dst (N := 3) rfl ?_); refine bX_ 3 (cs := #[.slice A0_0 l0_0.length c0_0]) (t := 24) ?_; intro gb199 hg w14 hbox hb; have n0 := aM_ (sT_ HB.out hb); have n1 := aM_ (hbox); have n2 := aM_ (sZ_ hg HB.out); have n3 := aM_ (sZ_ hg HB.out); clear HB; have HB := n0; have BK199 := n1; have GW199 := n2; have GE199 := n3; clear n0 n1 n2 n3; clear hb hbox hg; have hcz15_0 : w14.cell? ⟨gb199, 0, none⟩ = some (.slice A0_0 l0_0.length c0_0) := (blk_cell BK199.out 0).trans rfl; have hfz15_0 := blk_frozen BK199.out 0) | ((with_reducible refine gate_callee (f := 27) rfl ?_); refine gL_ (some 8) Try.func27 #[.agg #[.slice A0_0 l0_0.length c0_0]] ?_; (with_reducible refine (spec_MemoryOk.calls k _ _ l0_0 true _ ?side1 ?side2 A4.out).mono ?_); (case side1 => exact cS_ (Kd.C_below HR0_0.out HB.out)); (case side2 => exact HC0_0.out); rintro e w16 ⟨rfl, hb⟩; refine ⟨_, rfl, ?_⟩; have n0 := aM_ (nB_ BK199.out hb); have n1 := aM_ (sT_ HB.out hb); clear BK199; clear HB; have BK199 := n0; have HB := n1; clear n0 n1; have hcz17_0 : w16.cell? ⟨gb199, 0, none⟩ = some (.slice A0_0 l0_0.length c0_0) := (blk_cell BK199.out 0).trans rfl; have hfz17_0 := blk_frozen BK199.out 0) | (go_at_call 29; (with_reducible refine (spec_ViewOk.calls k _ _ l0_0 _ _ l1 false _ ?side1 ?side2 ?side3 ?side4 A6.out).mono ?_); (case side1 => exact cS_ (Kd.C_below HR0_0.out HB.out)); (case side2 => exact HC0_0.out); (case side3 => exact cS_ (Kd.C_below HR1.out HB.out)); (case side4 => exact HC1.out); rintro e w18 ⟨rfl, hb⟩; have n0 := aM_ (nB_ BK199.out hb); have n1 := aM_ (sT_ HB.out hb); clear BK199; clear HB; have BK199 := n0; have HB := n1; clear n0 n1))
   go_ret
   exact fI_ HB.out
 ·replace c5 := Bool.eq_false_iff.mpr c5
  subst c5
  have H1 : (some false) = some r := by rw [if_neg (show ¬ (false = true) by decide)] at H; exact H
  clear H
  have H := H1
  clear H1
  obtain rfl := Option.some.inj H
  go_enter Try.func61, Try.ntmps61
  go_wp2_with (first | ((with_reducible refine gate_dst (N := 3) rfl ?_); refine bX_ 3 (cs := #[.slice A0_0 l0_0.length c0_0]) (t := 24) ?_; intro gb199 hg w19 hbox hb; have n0 := aM_ (sT_ HB.out hb); have n1 := aM_ (hbox); have n2 := aM_ (sZ_ hg HB.out); have n3 := aM_ (sZ_ hg HB.out); clear HB; have HB := n0; have BK199 := n1; have GW199 := n2; have GE199 := n3; clear n0 n1 n2 n3; clear hb hbox hg; have hcz20_0 : w19.cell? ⟨gb199, 0, none⟩ = some (.slice A0_0 l0_0.length c0_0) := (blk_cell BK199.out 0).trans rfl; have hfz20_0 := blk_frozen BK199.out 0) | ((with_reducible refine gate_callee (f := 27) rfl ?_); refine gL_ (some 8) Try.func27 #[.agg #[.slice A0_0 l0_0.length c0_0]] ?_; (with_reducible refine (spec_MemoryOk.calls k _ _ l0_0 false _ ?side1 ?side2 A4.out).mono ?_); (case side1 => exact cS_ (Kd.C_below HR0_0.out HB.out)); (case side2 => exact HC0_0.out); rintro e w21 ⟨rfl, hb⟩; refine ⟨_, rfl, ?_⟩; have n0 := aM_ (nB_ BK199.out hb); have n1 := aM_ (sT_ HB.out hb); clear BK199; clear HB; have BK199 := n0; have HB := n1; clear n0 n1))
  go_ret
  exact fI_ HB.out
def spec_l1Max.f (a0 : Int) (a1 : Int) : Option (Int) := if a0 > a1 then (some a0) else (some a1)
set_option maxHeartbeats 8000000 in
set_option maxRecDepth 100000 in
theorem spec_l1Max.calls (a0 : Int) (a1 : Int) (r : Int) (w : World) (h : spec_l1Max.f a0 a1 = some r) :
  Calls Try.prog 95 #[.int .i64 a0, .int .i64 a1] w fun e w' => e = .returned (.int .i64 r) ∧ Drawn0 w w' := by
 have H : (if a0 > a1 then (some a0) else (some a1)) = some r := h
 clear h
 by_cases c3 : a0 > a1
 ·rw [if_pos c3] at H
  have c3b0 : decide (a1 < a0) = true := decide_eq_true c3
  clear c3
  obtain rfl := Option.some.inj H
  go_enter Try.func95, Try.ntmps95
  go_wp2
  go_ret
  exact ⟨by first | rfl | (simp; done) | (simp [*]; done), by repeat (first | exact Drawn0.refl _ | apply Drawn0.step)⟩
 ·rw [if_neg c3] at H
  have c3b0 : decide (a1 < a0) = false := decide_eq_false c3
  clear c3
  obtain rfl := Option.some.inj H
  go_enter Try.func95, Try.ntmps95
  go_wp2
  go_ret
  exact ⟨by first | rfl | (simp; done) | (simp [*]; done), by repeat (first | exact Drawn0.refl _ | apply Drawn0.step)⟩
def spec_Join.l0 : Nat → List Int → List Int → List Int → Int → Option (List Int)
  | 0, _, _, _, _ => none
  | k + 1, x0, x1, x5, x6 => if x6 < (x0.length : Int) then (if x6 < (x1.length : Int) then (if 0 ≤ x6 then ((spec_l1Max.f (rd x0 x6) (rd x1 x6)).bind fun t208 => (if x5.length < 17592186044416 then (spec_Join.l0 k x0 x1 (x5 ++ [t208]) (wrap64 (x6 + 1))) else (none))) else (none)) else (some x5)) else (some x5)
def spec_Join.f (k : Nat) (l0 : List Int) (l1 : List Int) : Option (List Int) := spec_Join.l0 k l0 l1 (([] : List Int)) 0
def spec_Join.T5 : Bool × List (List Nat × List Nat) := (true, [([], []), ([], []), ([], []), ([1, 2], [1, 2]), ([3], [3]), ([], []), ([], []), ([5, 6], [5, 6]), ([7], [7]), ([4, 8], [4, 8]), ([9], [9]), ([0, 10, 9], [0, 10]), ([11, 11, 0, 1, 2, 3, 4, 5, 6, 7, 8, 9, 10, 11], [0, 11])])
def spec_Join.B5 : List Nat := [0, 0, 0, 6, 14, 0, 0, 96, 224, 510, 1022, 2047, 4095]
theorem spec_Join.tab5 : rtab .any (opsOf Try.f96 5) = spec_Join.T5 := by kernel_rfl
theorem spec_Join.bits5 : waitsOk spec_Join.T5.2 spec_Join.B5 = true := by kernel_rfl
set_option maxHeartbeats 8000000 in
set_option maxRecDepth 100000 in
theorem spec_Join.calls (k : Nat) (A0 : Option Addr) (c0 : Nat) (l0 : List Int) (A1 : Option Addr) (c1 : Nat) (l1 : List Int) (r : List Int) (w : World) (hr0 : Kd.C (Kd.int .i64) w A0 l0.length l0) (hc0 : l0.length ≤ c0) (hr1 : Kd.C (Kd.int .i64) w A1 l1.length l1) (hc1 : l1.length ≤ c1) (h : spec_Join.f k l0 l1 = some r) :
  Calls Try.prog 96 #[.slice A0 l0.length c0, .slice A1 l1.length c1] w fun e w' => ∃ v0_ : Value, e = .returned (v0_) ∧ Kd.R (Kd.int .i64) 3 w' w.heap.size (fun _ => True) v0_ r ∧ Below w.heap.size w w' := by
 have HR0 := aM_ hr0
 have HC0 := aM_ hc0
 clear hr0 hc0
 have HR1 := aM_ hr1
 have HC1 := aM_ hc1
 clear hr1 hc1
 have HB := aM_ (Below.refl w.heap.size w)
 have H : (spec_Join.l0 k l0 l1 (([] : List Int)) 0) = some r := h
 clear h
 obtain ⟨y203, hy203⟩ : ∃ y_ : List Int, y_ = (([] : List Int)) := ⟨_, rfl⟩
 replace H : (spec_Join.l0 k l0 l1 y203 0) = some r := by first | (rw [hy203]; with_reducible exact H) | (have H2_ := (Option.bind_some _ _).symm.trans H; rw [hy203]; with_reducible exact H2_) | (have H2_ := (Option.bind_some _ _).symm.trans H; with_reducible exact H2_) | with_reducible exact H | (rw [hy203]; exact H) | exact H
 have Ny203 := aM_ hy203
 clear hy203
 have H' := aM_ H
 clear H
 go_enter Try.func96, Try.ntmps96
 go_wp2_with (first | ((with_reducible refine gate_dst (N := 7) rfl ?_); (try (refine gate_guard (by rfl) ?_; dsimp only)); refine Kd.R_lit (Kd.int .i64) _ 3 ?hg (N := 7) ?hd (xs := ([] : List Int)) (inner := []) (ok := fun _ => True) (okp := fun _ => True) ?hr ?hp (fun _ hk => hk) trivial (Below.refl _ _) (Nat.le_refl _) (by simp) ?_; (case hd => rfl); (case hg => rfl); (case hr => first | (go_simp; done) | (go_simp; rfl)); (case hp => exact (Reps.none _ _)); intro v204 w3 ho4 hb hg_ hnew_; clear hg_ hnew_; (first | rw [← Ny203.out] at ho4 | (simp only [Int.reduceToNat] at ho4; rw [← Ny203.out] at ho4)); have n0 := aM_ (Kd.R_lower ho4 (below_size (gB_ HB.out))); have n1 := aM_ (sT_ HB.out hb); clear HB; have HO205 := n0; have HB := n1; clear n0 n1; clear hb ho4))
 go_loopg [5, 6] k (fun kq v5 v6 w' => ∃ (x5_1 : List Int) (x6_1 : Int), v6 = .int .i64 x6_1 ∧ Aside0 (spec_Join.l0 kq l0 l1 x5_1 x6_1 = some r) ∧ Aside0 (kq ≤ k) ∧ Aside0 (Kd.R (Kd.int .i64) 3 w' w.heap.size (fun _ => True) v5 x5_1) ∧ Aside0 (Below w.heap.size w w'))
 case atStart => exact ⟨(y203), (0), (by first | rfl | (simp; done) | (simp [*]; done)), H', ⟨Nat.le_refl _⟩, ⟨by (with_reducible repeat (first | apply rA_ | apply rN_ | apply rD_)); exact HO205.out⟩, ⟨gW_ HB.out⟩⟩
 case round =>
  clear H'
  try clear c1
  try clear p2
  obtain ⟨x5_1, x6_1, rfl, HA, HK1, HO_5, HB⟩ := hrel
  cases gk with
  | zero => exact absurd HA.out (by simp [spec_Join.l0])
  | succ k1 =>
   have H := HA.out
   clear HA
   simp only [spec_Join.l0] at H
   by_cases c5 : x6_1 < (l0.length : Int)
   ·rw [if_pos c5] at H
    have c5b0 : decide (x6_1 < (l0.length : Int)) = true := decide_eq_true c5
    clear c5
    by_cases c6 : x6_1 < (l1.length : Int)
    ·rw [if_pos c6] at H
     have c6b0 : decide (x6_1 < (l1.length : Int)) = true := decide_eq_true c6
     clear c6
     by_cases c7 : 0 ≤ x6_1
     ·rw [if_pos c7] at H
      have c7b0 : decide (0 ≤ x6_1) = true := decide_eq_true c7
      clear c7
      replace H := Option.bind_eq_some_iff.mp H
      obtain ⟨t208, A80, H⟩ := H
      replace H : (if x5_1.length < 17592186044416 then (spec_Join.l0 k1 l0 l1 (x5_1 ++ [t208]) (wrap64 (x6_1 + 1))) else (none)) = some r := H
      have A8 := aM_ A80
      clear A80
      by_cases c9 : x5_1.length < 17592186044416
      ·rw [if_pos c9] at H
       have LMc9 := aM_ c9
       clear c9
       obtain ⟨y209, hy209⟩ : ∃ y_ : List Int, y_ = (x5_1 ++ [t208]) := ⟨_, rfl⟩
       replace H : (spec_Join.l0 k1 l0 l1 y209 (wrap64 (x6_1 + 1))) = some r := by first | (rw [hy209]; with_reducible exact H) | (have H2_ := (Option.bind_some _ _).symm.trans H; rw [hy209]; with_reducible exact H2_) | (have H2_ := (Option.bind_some _ _).symm.trans H; with_reducible exact H2_) | with_reducible exact H | (rw [hy209]; exact H) | exact H
       have Ny209 := aM_ hy209
       clear hy209
       have H' := aM_ H
       clear H
       try go_wp2
       have n0 := aM_ (Kd.R_drew HO_5.out)
       have n1 := aM_ (below_drew1 HB.out)
       clear HO_5
       clear HB
       have HO_5 := n0
       have HB := n1
       clear n0 n1
       have p206 : 0 ≤ (x6_1 : Int) := of_decide_eq_true (by first | (with_reducible assumption) | assumption)
       have q206 : x6_1 < (l0.length : Int) := of_decide_eq_true (by first | (with_reducible assumption) | assumption)
       obtain ⟨ad206, e206, hx206_0⟩ := Kd.at_int HR0.out x6_1 p206 q206
       have hw206_0 := hx206_0
       cases e206
       replace hx206_0 := cB_ HB.out hx206_0
       replace p206 := eq_true p206
       replace q206 := eq_true q206
       have p207 : 0 ≤ (x6_1 : Int) := of_decide_eq_true (by first | (with_reducible assumption) | assumption)
       have q207 : x6_1 < (l1.length : Int) := of_decide_eq_true (by first | (with_reducible assumption) | assumption)
       obtain ⟨ad207, e207, hx207_0⟩ := Kd.at_int HR1.out x6_1 p207 q207
       have hw207_0 := hx207_0
       cases e207
       replace hx207_0 := cB_ HB.out hx207_0
       replace p207 := eq_true p207
       replace q207 := eq_true q207
       refine start_ (n := 13) (S := fun w' => w'.cell? (ad206.add (x6_1).toNat) = some (.int .i64 (rd l0 x6_1)) ∧ w'.cell? (ad207.add (x6_1).toNat) = some (.int .i64 (rd l1 x6_1))) (ds := []) (mk_ 13 0) (by kernel_rfl) rfl rfl ⟨(cB_ HB.out hw206_0 :), (cB_ HB.out hw207_0 :)⟩ (fun hHeld => ?_); refine with_tabW spec_Join.tab5 spec_Join.bits5 (fun HT_ HW_ => ?_)
       generalize wr.drew = w10 at HO_5 HB hx206_0 hx207_0 hHeld ⊢
       refine pU_ 0 (some 20) (mk_ 13 1) ?_
       refine pU_ 1 (some 21) (mk_ 13 3) ?_
       refine pU_ 2 (some 22) (mk_ 13 7) ?_
       refine pU_ 3 (some 23) (mk_ 13 15) ?_
       refine pU_ 5 (some 25) (mk_ 13 47) ?_
       refine pU_ 6 (some 26) (mk_ 13 111) ?_
       refine pU_ 7 (some 27) (mk_ 13 239) ?_
       refine tK2_ 4 (some 24) (mk_ 13 255) ?_
       refine tK2_ 8 (some 28) (mk_ 13 511) ?_
       refine oN_ 9 (some 29) (mk_ 13 1023) (fun K hK => ?_)
       refine gO_ Try.func95 #[.int .i64 (rd l0 x6_1), .int .i64 (rd l1 x6_1)] ?_
       with_reducible refine (spec_l1Max.calls (rd l0 x6_1) (rd l1 x6_1) t208 _ A8.out).mono ?_
       rintro e w' ⟨rfl, ⟨nd, rfl⟩⟩
       refine ⟨_, rfl, ?_⟩
       refine hK.out _ _ ⟨(cB_ HB.out hw206_0 :), (cB_ HB.out hw207_0 :)⟩ (fun hHeld => ?_)
       clear hK K
       refine norm_ (a' := ?_) ?_ ?_
       rotate_left
       ·show Act.put _ (some 29) _ = _
        simp only [pt_, pn_, sI_, s0_, s1_, i64_w, i32_w]
        rfl
       refine oN_ 10 (some 30) (mk_ 13 2047) (fun K hK => ?_)
       refine value_ (w1 := ?_) (v := ?_) (by rfl) rfl ?_ ?_
       rotate_left 2
       ·go_simp
        constructor
        ·rfl
        ·rfl
       refine hK.out _ _ ⟨(World.cell?_alloc_lt _ _ _ (World.block_lt_of_cell? _ _ ((cB_ HB.out hw206_0 :)))).trans ((cB_ HB.out hw206_0 :)), (World.cell?_alloc_lt _ _ _ (World.block_lt_of_cell? _ _ ((cB_ HB.out hw207_0 :)))).trans ((cB_ HB.out hw207_0 :))⟩ (fun hHeld => ?_)
       clear hK K
       refine norm_ (a' := ?_) ?_ ?_
       rotate_left
       ·show Act.put _ (some 30) _ = _
        simp only [pt_, pn_, sI_, s0_, s1_, i64_w, i32_w]
        rfl
       refine oN_ 11 (some 31) (mk_ 13 4095) (fun K hK => ?_)
       refine Kd.R_append_step (Kd.int .i64) (w0 := w) w.heap.size (by rfl) (.tmp 20) (.tmp 30) 31 3 (.int .i64 0) 8 rfl Try.underlying31 info3 rfl (by decide) (by omega) u5 x5_1 t208 [.int .i64 t208] (fun _ => True) (fun _ => False) rfl rfl ?aP (fun _ hk => hk.elim) ?aF ?aO ?aB ?aS ?aL ?_
       (case aP => exact rfl)
       (case aB => exact (gB_ HB.out))
       (case aF => exact (fun _ _ => trivial))
       (case aO => exact (by (with_reducible repeat (first | apply rA_ | apply rN_ | apply rD_)); exact HO_5.out))
       (case aS => exact (below_size (gB_ HB.out)))
       (case aL => have := LMc9.out; omega)
       intro v210 w11 ho hb hg hat
       rw [← Ny209.out] at ho
       have n0 := aM_ (hb)
       have n1 := aM_ (ho)
       clear HB
       clear HO_5
       have HB := n0
       have HO211 := n1
       clear n0 n1
       clear ho hb hg hat
       refine hK.out _ _ ⟨(cB_ HB.out hw206_0 :), (cB_ HB.out hw207_0 :)⟩ (fun hHeld => ?_)
       clear hK K
       refine norm_ (a' := ?_) ?_ ?_
       rotate_left
       ·show Act.put _ (some 31) _ = _
        simp only [pt_, pn_, sI_, s0_, s1_, i64_w, i32_w]
        rfl
       refine pU_ 12 (some 5) (mk_ 13 8191) ?_
       refine done_ (done_of HT_.out (by kernel_rfl)) ?_
       try go_wp2
       go_roundg k1
       case measure => have := HK1.out; omega
       case rel => exact ⟨(y209), (wrap64 (x6_1 + 1)), (by first | rfl | (simp; done) | (simp [*]; done)), H', ⟨by have := HK1.out; omega⟩, ⟨by (with_reducible repeat (first | apply rA_ | apply rN_ | apply rD_)); exact HO211.out⟩, ⟨gW_ HB.out⟩⟩
      ·rw [if_neg c9] at H
       exact absurd H (by simp)
     ·rw [if_neg c7] at H
      exact absurd H (by simp)
    ·rw [if_neg c6] at H
     have c6b0 : decide (x6_1 < (l1.length : Int)) = false := decide_eq_false c6
     clear c6
     obtain rfl := Option.some.inj H
     go_wp2
     go_ret
     exact ⟨_, fR_, by (with_reducible repeat (first | apply rA_ | apply rN_ | apply rD_)); exact HO_5.out, gB_ HB.out⟩
   ·rw [if_neg c5] at H
    have c5b0 : decide (x6_1 < (l0.length : Int)) = false := decide_eq_false c5
    clear c5
    obtain rfl := Option.some.inj H
    go_wp2
    go_ret
    exact ⟨_, fR_, by (with_reducible repeat (first | apply rA_ | apply rN_ | apply rD_)); exact HO_5.out, gB_ HB.out⟩
end Go.Proofs.Ythbcnakmnbilhaa.PFnSwap
