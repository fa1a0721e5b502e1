/- A part of the proof that the law FnInsText holds for every input: the words, functions and walks that its row needs, without a condition of their own. -/
import Derived.Test.YtkjfcmgpplapeaaDoorZFnInsTexta1
import Derived.Test.YtkjfcmgpplapeaaDoorZFnInsTexta4
import Derived.Test.YtkjfcmgpplapeaaDoorZFnInsTexta5
import Derived.Test.YtkjfcmgpplapeaaDoorZFnInsTexta7
import Derived.Test.YtkjfcmgpplapeaaDoorZFnInsTexta8
import Derived.Test.YtkjfcmgpplapeaaDoorZFnInsTexta11
import Derived.Test.YtkjfcmgpplapeaaDoorZFnInsTexta12
import Derived.Test.YtkjfcmgpplapeaaDoorZFnInsTexta13
import Derived.Test.YtkjfcmgpplapeaaDoorZFnInsTexta15
import Derived.Test.YtkjfcmgpplapeaaDoorZFnInsTexts
namespace Go.Proofs.YtkjfcmgpplapeaaDoor.PFnInsText
open Go.RowKit Go.Proofs.YtkjfcmgpplapeaaDoorW.PrintWords Go.Proofs.YtkjfcmgpplapeaaDoorW.PrintLast Go.Proofs.YtkjfcmgpplapeaaDoorW.PrintMore
attribute [local go_sem] max2_int min2_int max_two min_two max_three min_three max_four min_four   -- for this text's walks alone
set_option linter.unusedVariables false
set_option linter.unusedSimpArgs false
attribute [local go_sem high] eqA32
mutual
def laws_FnInsText.j0 : Nat → List Int → ByteArray → Bool → Int → Int → Int → Int → Int → Option (Bool)
  | 0, _, _, _, _, _, _, _, _ => none
  | k + 1, x0, x4, x28, x516000, x516001, x516002, x516003, x516004 => if x28 = true then (some false) else (if x4.toList = ([] : List UInt8) then (laws_FnInsText.j1 k x0) else ((impl_InsRead.f k x4).bind fun bt519 => (if bt519.2.2.2.2.2 = true then (if (!(bt519.1 == x516000) || (!(bt519.2.1 == x516001) || (!(bt519.2.2.1 == x516002) || (!(bt519.2.2.2.1 == x516003) || (!(bt519.2.2.2.2.1 == x516004)))))) = true then (some false) else (laws_FnInsText.j1 k x0)) else (some false))))
def laws_FnInsText.j1 : Nat → List Int → Option (Bool)
  | 0, _ => none
  | k + 1, x0 => (spec_DrawInsRead.f k x0).bind fun t526 => ((impl_InsRead.f k t526).bind fun bt527 => ((spec_InsRead.f k t526).bind fun bt534 => (if (bt527.2.2.2.2.2 == bt534.2.2.2.2.2) = true then (if bt527.2.2.2.2.2 = true then ((impl_InsText.f k bt527.1 bt527.2.1 bt527.2.2.1 bt527.2.2.2.1 bt527.2.2.2.2.1).bind fun t541 => (some (t541.toList == t526.toList))) else (if (bt527.1 == 0 && (bt527.2.1 == 0 && (bt527.2.2.1 == 0 && (bt527.2.2.2.1 == 0 && (bt527.2.2.2.2.1 == 0))))) = true then (some true) else (some false))) else (some false))))
end
def laws_FnInsText.f (k : Nat) (l0 : List Int) : Option (Bool) := (laws_big.f l0).bind fun t509 => (if t509 = true then (some true) else ((spec_DrawInsText.f k l0).bind fun bt510 => ((impl_InsText.f k bt510.1 bt510.2.1 bt510.2.2.1 bt510.2.2.2.1 bt510.2.2.2.2).bind fun t516 => ((spec_InsText.f k bt510.1 bt510.2.1 bt510.2.2.1 bt510.2.2.2.1 bt510.2.2.2.2).bind fun t517 => (if t516.toList = t517.toList then ((impl_InsOk.f k bt510.1 bt510.2.1 bt510.2.2.1 bt510.2.2.2.1 bt510.2.2.2.2 24 3).bind fun t518 => (laws_FnInsText.j0 k l0 t516 ((t516.toList != ([] : List UInt8)) != t518) bt510.1 bt510.2.1 bt510.2.2.1 bt510.2.2.2.1 bt510.2.2.2.2)) else (laws_FnInsText.j0 k l0 t516 true bt510.1 bt510.2.1 bt510.2.2.1 bt510.2.2.2.1 bt510.2.2.2.2))))))
set_option maxHeartbeats 8000000 in
set_option maxRecDepth 100000 in
theorem laws_FnInsText.calls (k : Nat) (A0 : Option Addr) (c0 : Nat) (l0 : List Int) (r : Bool) (w : World) (hr0 : Kd.C (Kd.int .u8) w A0 l0.length l0) (hc0 : l0.length ≤ c0) (h : laws_FnInsText.f k l0 = some r) (hT : TabT.Laid w) :
  Calls Tryd.prog 10 #[.slice A0 l0.length c0] w fun e w' => e = .returned (.bool r) ∧ Below w.heap.size w w' := by
 have hu32 := Tryd.underlying32
 have HR0 := aM_ hr0
 have HC0 := aM_ hc0
 clear hr0 hc0
 have HB := aM_ (Below.refl w.heap.size w)
 have H : ((laws_big.f l0).bind fun t509 => (if t509 = true then (some true) else ((spec_DrawInsText.f k l0).bind fun bt510 => ((impl_InsText.f k bt510.1 bt510.2.1 bt510.2.2.1 bt510.2.2.2.1 bt510.2.2.2.2).bind fun t516 => ((spec_InsText.f k bt510.1 bt510.2.1 bt510.2.2.1 bt510.2.2.2.1 bt510.2.2.2.2).bind fun t517 => (if t516.toList = t517.toList then ((impl_InsOk.f k bt510.1 bt510.2.1 bt510.2.2.1 bt510.2.2.2.1 bt510.2.2.2.2 24 3).bind fun t518 => (laws_FnInsText.j0 k l0 t516 ((t516.toList != ([] : List UInt8)) != t518) bt510.1 bt510.2.1 bt510.2.2.1 bt510.2.2.2.1 bt510.2.2.2.2)) else (laws_FnInsText.j0 k l0 t516 true bt510.1 bt510.2.1 bt510.2.2.1 bt510.2.2.2.1 bt510.2.2.2.2))))))) = some r := h
 clear h
 replace H := Option.bind_eq_some_iff.mp H
 obtain ⟨t509, A20, H⟩ := H
 replace H : (if t509 = true then (some true) else ((spec_DrawInsText.f k l0).bind fun bt510 => ((impl_InsText.f k bt510.1 bt510.2.1 bt510.2.2.1 bt510.2.2.2.1 bt510.2.2.2.2).bind fun t516 => ((spec_InsText.f k bt510.1 bt510.2.1 bt510.2.2.1 bt510.2.2.2.1 bt510.2.2.2.2).bind fun t517 => (if t516.toList = t517.toList then ((impl_InsOk.f k bt510.1 bt510.2.1 bt510.2.2.1 bt510.2.2.2.1 bt510.2.2.2.2 24 3).bind fun t518 => (laws_FnInsText.j0 k l0 t516 ((t516.toList != ([] : List UInt8)) != t518) bt510.1 bt510.2.1 bt510.2.2.1 bt510.2.2.2.1 bt510.2.2.2.2)) else (laws_FnInsText.j0 k l0 t516 true bt510.1 bt510.2.1 bt510.2.2.1 bt510.2.2.2.1 bt510.2.2.2.2)))))) = some r := H
 have A2 := aM_ A20
 clear A20
 by_cases c3 : t509 = true
 ·subst c3
  have H1 : (some true) = some r := by rw [if_pos rfl] at H; exact H
  clear H
  have H := H1
  clear H1
  obtain rfl := Option.some.inj H
  go_enter Tryd.func10, Tryd.ntmps10
  go_wp2_with (first | ((with_reducible refine gate_callee (f := 40) rfl ?_); refine gL_ (some 13) Tryd.func40 #[.slice A0 l0.length c0] ?_; (with_reducible refine (laws_big.calls _ _ l0 true _ ?side1 ?side2 A2.out).mono ?_); (case side1 => exact cS_ HR0.out); (case side2 => exact HC0.out); rintro e w' ⟨rfl, ⟨nd, rfl⟩⟩; refine ⟨_, rfl, ?_⟩))
  go_ret
  exact fI_ HB.out
 ·replace c3 := Bool.eq_false_iff.mpr c3
  subst c3
  have H1 : ((spec_DrawInsText.f k l0).bind fun bt510 => ((impl_InsText.f k bt510.1 bt510.2.1 bt510.2.2.1 bt510.2.2.2.1 bt510.2.2.2.2).bind fun t516 => ((spec_InsText.f k bt510.1 bt510.2.1 bt510.2.2.1 bt510.2.2.2.1 bt510.2.2.2.2).bind fun t517 => (if t516.toList = t517.toList then ((impl_InsOk.f k bt510.1 bt510.2.1 bt510.2.2.1 bt510.2.2.2.1 bt510.2.2.2.2 24 3).bind fun t518 => (laws_FnInsText.j0 k l0 t516 ((t516.toList != ([] : List UInt8)) != t518) bt510.1 bt510.2.1 bt510.2.2.1 bt510.2.2.2.1 bt510.2.2.2.2)) else (laws_FnInsText.j0 k l0 t516 true bt510.1 bt510.2.1 bt510.2.2.1 bt510.2.2.2.1 bt510.2.2.2.2))))) = some r := by rw [if_neg (show ¬ (false = true) by decide)] at H; exact H
  clear H
  have H := H1
  clear H1
  replace H := Option.bind_eq_some_iff.mp H
  obtain ⟨⟨t510, t511, t512, t513, t514⟩, A40, H⟩ := H
  replace H : ((impl_InsText.f k t510 t511 t512 t513 t514).bind fun t516 => ((spec_InsText.f k t510 t511 t512 t513 t514).bind fun t517 => (if t516.toList = t517.toList then ((impl_InsOk.f k t510 t511 t512 t513 t514 24 3).bind fun t518 => (laws_FnInsText.j0 k l0 t516 ((t516.toList != ([] : List UInt8)) != t518) t510 t511 t512 t513 t514)) else (laws_FnInsText.j0 k l0 t516 true t510 t511 t512 t513 t514)))) = some r := H
  have A4 := aM_ A40
  clear A40
  replace H := Option.bind_eq_some_iff.mp H
  obtain ⟨t516, A50, H⟩ := H
  replace H : ((spec_InsText.f k t510 t511 t512 t513 t514).bind fun t517 => (if t516.toList = t517.toList then ((impl_InsOk.f k t510 t511 t512 t513 t514 24 3).bind fun t518 => (laws_FnInsText.j0 k l0 t516 ((t516.toList != ([] : List UInt8)) != t518) t510 t511 t512 t513 t514)) else (laws_FnInsText.j0 k l0 t516 true t510 t511 t512 t513 t514))) = some r := H
  have A5 := aM_ A50
  clear A50
  have HC6 := aM_ H
  clear H
  go_enter Tryd.func10, Tryd.ntmps10
  go_upto_region 5 with (first | ((with_reducible refine gate_callee (f := 40) rfl ?_); refine gL_ (some 13) Tryd.func40 #[.slice A0 l0.length c0] ?_; (with_reducible refine (laws_big.calls _ _ l0 false _ ?side1 ?side2 A2.out).mono ?_); (case side1 => exact cS_ HR0.out); (case side2 => exact HC0.out); rintro e w' ⟨rfl, ⟨nd, rfl⟩⟩; refine ⟨_, rfl, ?_⟩) | ((with_reducible refine gate_callee (f := 48) rfl ?_); refine gL_ (some 15) Tryd.func48 #[.slice A0 l0.length c0] ?_; (with_reducible refine (spec_DrawInsText.calls k _ _ l0 t510 t511 t512 t513 t514 _ ?side1 ?side2 A4.out).mono ?_); (case side1 => exact cS_ HR0.out); (case side2 => exact HC0.out); rintro e w7 ⟨rfl, hb⟩; refine ⟨_, rfl, ?_⟩; have n0 := aM_ (sT_ HB.out hb); clear HB; have HB := n0; clear n0) | ((with_reducible refine gate_dst (N := 3) rfl ?_); refine bX_ 3 (cs := #[.int .i64 0, .int .i64 0, .int .i64 0, .int .i64 0, .int .i64 0]) (t := 32) ?_; intro gb515 hg w8 hbox hb; have n0 := aM_ (sT_ HB.out hb); have n1 := aM_ (hbox); have n2 := aM_ (sZ_ hg HB.out); have n3 := aM_ (sZ_ hg HB.out); clear HB; have HB := n0; have BK515 := n1; have GW515 := n2; have GE515 := n3; clear n0 n1 n2 n3; clear hb hbox hg; obtain ⟨hcz9_0, hcz9_1, hcz9_2, hcz9_3, hcz9_4, hfz9_0, hfz9_1, hfz9_2, hfz9_3, hfz9_4⟩ := bR5_ BK515.out) | ((with_reducible refine gate_callee (f := 21) rfl ?_); refine gL_ (some 17) Tryd.func21 #[.agg #[.int .i64 t510, .int .i64 t511, .int .i64 t512, .int .i64 t513, .int .i64 t514]] ?_; (with_reducible refine (impl_InsText.calls k t510 t511 t512 t513 t514 t516 _ A5.out ?sT).mono ?_); (case sT => first | with_reducible exact hT | exact TabT.Laid.below hT (by repeat (first | (with_reducible first | exact HB.out | apply hA_ | apply hN_ | apply hD_ | refine below_set ?_ GE515.out | refine below_set ?_ GE525.out | refine below_set ?_ GE533.out | refine below_set ?_ GE540.out) | exact HB.out))); rintro e w10 ⟨rfl, hb⟩; refine ⟨_, rfl, ?_⟩; have n0 := aM_ (blk_below (g := gb515) (o := .cells #[.int .i64 t510, .int .i64 t511, .int .i64 t512, .int .i64 t513, .int .i64 t514] 32 (0, 0)) (by (with_reducible repeat (first | refine bN_ ?_ _ | refine bD_ ?_ | refine bA_ ?_ _)); refine blk_put (cs := #[.int .i64 t510, .int .i64 t511, .int .i64 t512, .int .i64 t513, .int .i64 0]) ?_ 4 _ rfl; (with_reducible repeat (first | refine bN_ ?_ _ | refine bD_ ?_ | refine bA_ ?_ _)); refine blk_put (cs := #[.int .i64 t510, .int .i64 t511, .int .i64 t512, .int .i64 0, .int .i64 0]) ?_ 3 _ rfl; (with_reducible repeat (first | refine bN_ ?_ _ | refine bD_ ?_ | refine bA_ ?_ _)); refine blk_put (cs := #[.int .i64 t510, .int .i64 t511, .int .i64 0, .int .i64 0, .int .i64 0]) ?_ 2 _ rfl; (with_reducible repeat (first | refine bN_ ?_ _ | refine bD_ ?_ | refine bA_ ?_ _)); refine blk_put (cs := #[.int .i64 t510, .int .i64 0, .int .i64 0, .int .i64 0, .int .i64 0]) ?_ 1 _ rfl; (with_reducible repeat (first | refine bN_ ?_ _ | refine bD_ ?_ | refine bA_ ?_ _)); refine blk_put (cs := #[.int .i64 0, .int .i64 0, .int .i64 0, .int .i64 0, .int .i64 0]) ?_ 0 _ rfl; (with_reducible repeat (first | refine bN_ ?_ _ | refine bD_ ?_ | refine bA_ ?_ _)); exact BK515.out) hb); have n1 := aM_ (sT_ HB.out hb); clear BK515; clear HB; have BK515 := n0; have HB := n1; clear n0 n1))
  (try simp only [Act.put, List.setIfInBounds_toArray, List.set_cons_zero, List.set_cons_succ])
  go_cut [28] (fun v28 wc => ∃ (kq : Nat) (x28_5 : Bool), v28 = .bool x28_5 ∧ Aside0 (laws_FnInsText.j0 kq l0 t516 x28_5 t510 t511 t512 t513 t514 = some r) ∧ Aside0 (kq ≤ k) ∧ Aside0 (wc.heap[gb515]? = some (.cells #[.int .i64 t510, .int .i64 t511, .int .i64 t512, .int .i64 t513, .int .i64 t514] 32 (0, 0))) ∧ Aside0 (Below w.heap.size w wc))
  case first =>
   have H := HC6.out
   clear HC6
   replace H := Option.bind_eq_some_iff.mp H
   obtain ⟨t517, A110, H⟩ := H
   replace H : (if t516.toList = t517.toList then ((impl_InsOk.f k t510 t511 t512 t513 t514 24 3).bind fun t518 => (laws_FnInsText.j0 k l0 t516 ((t516.toList != ([] : List UInt8)) != t518) t510 t511 t512 t513 t514)) else (laws_FnInsText.j0 k l0 t516 true t510 t511 t512 t513 t514)) = some r := H
   have A11 := aM_ A110
   clear A110
   by_cases c12 : t516.toList = t517.toList
   ·rw [if_pos c12] at H
    have c12b0 : (t516.toList == t517.toList) = true := beq_iff_eq.mpr c12
    have c12b1 : (t516.toList != t517.toList) = false := bne_eq_false_iff_eq.mpr c12
    clear c12
    (first | rw [c12b0] | (simp only [i64_w, i32_w]; rw [c12b0]) | skip)
    replace H := Option.bind_eq_some_iff.mp H
    obtain ⟨t518, A130, H⟩ := H
    replace H : (laws_FnInsText.j0 k l0 t516 ((t516.toList != ([] : List UInt8)) != t518) t510 t511 t512 t513 t514) = some r := H
    have A13 := aM_ A130
    clear A130
    have H' := aM_ H
    clear H
    obtain ⟨hcz14_0, hcz14_1, hcz14_2, hcz14_3, hcz14_4, hfz14_0, hfz14_1, hfz14_2, hfz14_3, hfz14_4⟩ := bR5_ BK515.out
    go_wp2_with (first | ((with_reducible refine gate_callee (f := 19) rfl ?_); refine gL_ (some 20) Tryd.func19 #[.agg #[.int .i64 t510, .int .i64 t511, .int .i64 t512, .int .i64 t513, .int .i64 t514]] ?_; (with_reducible refine (spec_InsText.calls k t510 t511 t512 t513 t514 t517 _ A11.out).mono ?_); rintro e w15 ⟨rfl, hb⟩; refine ⟨_, rfl, ?_⟩; have n0 := aM_ (nB_ BK515.out hb); have n1 := aM_ (sT_ HB.out hb); clear BK515; clear HB; have BK515 := n0; have HB := n1; clear n0 n1; obtain ⟨hcz16_0, hcz16_1, hcz16_2, hcz16_3, hcz16_4, hfz16_0, hfz16_1, hfz16_2, hfz16_3, hfz16_4⟩ := bR5_ BK515.out) | (go_at_call 49; (with_reducible refine (impl_InsOk.calls k t510 t511 t512 t513 t514 24 3 t518 _ A13.out).mono ?_); rintro e w17 ⟨rfl, hb⟩; have n0 := aM_ (nB_ BK515.out hb); have n1 := aM_ (sT_ HB.out hb); clear BK515; clear HB; have BK515 := n0; have HB := n1; clear n0 n1))
    go_meet
    case rel => exact ⟨_, (((t516.toList != ([] : List UInt8)) != t518)), (by first | rfl | (simp; done) | (simp [*]; done) | (cases t518 <;> cases t516.toList <;> rfl)), H', ⟨by first | omega | exact Nat.le_refl _⟩, ⟨rW_ BK515.out⟩, ⟨gW_ HB.out⟩⟩
   ·rw [if_neg c12] at H
    have c12b0 : (t516.toList == t517.toList) = false := beq_eq_false_iff_ne.mpr c12
    have c12b1 : (t516.toList != t517.toList) = true := bne_iff_ne.mpr c12
    (first | rw [c12b0] | (simp only [i64_w, i32_w]; rw [c12b0]) | skip)
    have H' := aM_ H
    clear H
    obtain ⟨hcz18_0, hcz18_1, hcz18_2, hcz18_3, hcz18_4, hfz18_0, hfz18_1, hfz18_2, hfz18_3, hfz18_4⟩ := bR5_ BK515.out
    go_wp2_with (first | ((with_reducible refine gate_callee (f := 19) rfl ?_); refine gL_ (some 20) Tryd.func19 #[.agg #[.int .i64 t510, .int .i64 t511, .int .i64 t512, .int .i64 t513, .int .i64 t514]] ?_; (with_reducible refine (spec_InsText.calls k t510 t511 t512 t513 t514 t517 _ A11.out).mono ?_); rintro e w19 ⟨rfl, hb⟩; refine ⟨_, rfl, ?_⟩; have n0 := aM_ (nB_ BK515.out hb); have n1 := aM_ (sT_ HB.out hb); clear BK515; clear HB; have BK515 := n0; have HB := n1; clear n0 n1))
    go_meet
    case rel => exact ⟨_, (true), (by first | rfl | (simp; done) | (simp [*]; done)), H', ⟨by first | omega | exact Nat.le_refl _⟩, ⟨rW_ BK515.out⟩, ⟨gW_ HB.out⟩⟩
  case rest =>
   clear HC6
   try clear c1
   try clear c2
   try clear p2
   try clear c3
   try clear c4
   try clear c10
   try clear c12
   try clear c12b0
   try clear c12b1
   try clear c19
   try clear hcz14_0
   try clear hcz14_1
   try clear hcz14_2
   try clear hcz14_3
   try clear hcz14_4
   try clear hcz16_0
   try clear hcz16_1
   try clear hcz16_2
   try clear hcz16_3
   try clear hcz16_4
   try clear hcz18_0
   try clear hcz18_1
   try clear hcz18_2
   try clear hcz18_3
   try clear hcz18_4
   try clear hcz9_0
   try clear hcz9_1
   try clear hcz9_2
   try clear hcz9_3
   try clear hcz9_4
   try clear hfz14_0
   try clear hfz14_1
   try clear hfz14_2
   try clear hfz14_3
   try clear hfz14_4
   try clear hfz16_0
   try clear hfz16_1
   try clear hfz16_2
   try clear hfz16_3
   try clear hfz16_4
   try clear hfz18_0
   try clear hfz18_1
   try clear hfz18_2
   try clear hfz18_3
   try clear hfz18_4
   try clear hfz9_0
   try clear hfz9_1
   try clear hfz9_2
   try clear hfz9_3
   try clear hfz9_4
   obtain ⟨kq, x28_5, rfl, HA, HJ5, BK515, HB⟩ := hcut
   cases kq with
   | zero => exact absurd HA.out (by simp [laws_FnInsText.j0])
   | succ kj5 =>
    have H := HA.out
    clear HA
    simp only [laws_FnInsText.j0] at H
    by_cases c20 : x28_5 = true
    ·subst c20
     have H1 : (some false) = some r := by rw [if_pos rfl] at H; exact H
     clear H
     have H := H1
     clear H1
     obtain rfl := Option.some.inj H
     go_wp2
     go_ret
     exact fI_ HB.out
    ·replace c20 := Bool.eq_false_iff.mpr c20
     subst c20
     have H1 : (if t516.toList = ([] : List UInt8) then (laws_FnInsText.j1 kj5 l0) else ((impl_InsRead.f kj5 t516).bind fun bt519 => (if bt519.2.2.2.2.2 = true then (if (!(bt519.1 == t510) || (!(bt519.2.1 == t511) || (!(bt519.2.2.1 == t512) || (!(bt519.2.2.2.1 == t513) || (!(bt519.2.2.2.2.1 == t514)))))) = true then (some false) else (laws_FnInsText.j1 kj5 l0)) else (some false)))) = some r := by rw [if_neg (show ¬ (false = true) by decide)] at H; exact H
     clear H
     have H := H1
     clear H1
     have HC21 := aM_ H
     clear H
     go_upto_if 30 with (fail)
     go_cut [] (fun wc => ∃ (kq : Nat), Aside0 (laws_FnInsText.j1 kq l0 = some r) ∧ Aside0 (kq ≤ kj5) ∧ Aside0 (wc.heap[gb515]? = some (.cells #[.int .i64 t510, .int .i64 t511, .int .i64 t512, .int .i64 t513, .int .i64 t514] 32 (0, 0))) ∧ Aside0 (Below w.heap.size w wc))
     case first =>
      have H := HC21.out
      clear HC21
      by_cases c22 : t516.toList = ([] : List UInt8)
      ·rw [if_pos c22] at H
       have c22b0 : (t516.toList == ([] : List UInt8)) = true := beq_iff_eq.mpr c22
       have c22e : t516.toList.isEmpty = true := List.isEmpty_iff.mpr c22
       have c22f : ¬ ((!t516.toList.isEmpty) = true) := by rw [c22e]; decide
       have c22g : ¬ (t516.toList.isEmpty = false) := by rw [c22e]; decide
       have c22b1 : (t516.toList != ([] : List UInt8)) = false := bne_eq_false_iff_eq.mpr c22
       clear c22
       (first | rw [c22b0] | (simp only [i64_w, i32_w]; rw [c22b0]) | skip)
       have H' := aM_ H
       clear H
       go_wp2
       go_meet
       case rel => exact ⟨_, H', ⟨by have := HJ5.out; first | omega | exact Nat.le_refl _⟩, ⟨rW_ BK515.out⟩, ⟨gW_ HB.out⟩⟩
      ·rw [if_neg c22] at H
       have c22b0 : (t516.toList == ([] : List UInt8)) = false := beq_eq_false_iff_ne.mpr c22
       have c22e : t516.toList.isEmpty = false := (by rw [← Bool.not_eq_true, List.isEmpty_iff]; exact c22)
       have c22f : ¬ ((!t516.toList.isEmpty) = false) := by rw [c22e]; decide
       have c22g : ¬ (t516.toList.isEmpty = true) := by rw [c22e]; decide
       have c22b1 : (t516.toList != ([] : List UInt8)) = true := bne_iff_ne.mpr c22
       (first | rw [c22b0] | (simp only [i64_w, i32_w]; rw [c22b0]) | skip)
       replace H := Option.bind_eq_some_iff.mp H
       obtain ⟨⟨t519, t520, t521, t522, t523, t524⟩, A230, H⟩ := H
       replace H : (if t524 = true then (if (!(t519 == t510) || (!(t520 == t511) || (!(t521 == t512) || (!(t522 == t513) || (!(t523 == t514)))))) = true then (some false) else (laws_FnInsText.j1 kj5 l0)) else (some false)) = some r := H
       have A23 := aM_ A230
       clear A230
       by_cases c24 : t524 = true
       ·subst c24
        have H1 : (if (!(t519 == t510) || (!(t520 == t511) || (!(t521 == t512) || (!(t522 == t513) || (!(t523 == t514)))))) = true then (some false) else (laws_FnInsText.j1 kj5 l0)) = some r := by rw [if_pos rfl] at H; exact H
        clear H
        have H := H1
        clear H1
        by_cases c25 : (!(t519 == t510) || (!(t520 == t511) || (!(t521 == t512) || (!(t522 == t513) || (!(t523 == t514)))))) = true
        ·rw [if_pos c25] at H
         have c25b0 : (!(t519 == t510) || (!(t520 == t511) || (!(t521 == t512) || (!(t522 == t513) || (!(t523 == t514)))))) = true := c25
         clear c25
         obtain rfl := Option.some.inj H
         go_wp2_with (first | ((with_reducible refine gate_callee (f := 50) rfl ?_); refine gL_ (some 33) Tryd.func50 #[.string t516] ?_; (with_reducible refine (impl_InsRead.calls kj5 t516 t519 t520 t521 t522 t523 true _ A23.out ?sT).mono ?_); (case sT => first | with_reducible exact hT | exact TabT.Laid.below hT (by repeat (first | (with_reducible first | exact HB.out | apply hA_ | apply hN_ | apply hD_ | refine below_set ?_ GE515.out | refine below_set ?_ GE525.out | refine below_set ?_ GE533.out | refine below_set ?_ GE540.out) | exact HB.out))); rintro e w26 ⟨rfl, hb⟩; refine ⟨_, rfl, ?_⟩; have n0 := aM_ (nB_ BK515.out hb); have n1 := aM_ (sT_ HB.out hb); clear BK515; clear HB; have BK515 := n0; have HB := n1; clear n0 n1) | ((with_reducible refine gate_dst (N := 5) rfl ?_); refine bX_ 5 (cs := #[.int .i64 0, .int .i64 0, .int .i64 0, .int .i64 0, .int .i64 0]) (t := 32) ?_; intro gb525 hg w27 hbox hb; have n0 := aM_ (nB_ BK515.out hb); have n1 := aM_ (sT_ HB.out hb); have n2 := aM_ (hbox); have n3 := aM_ (sZ_ hg HB.out); have n4 := aM_ (sZ_ hg HB.out); have n5 := aM_ (nL_ hg BK515.out); have n6 := aM_ (nG_ hg BK515.out); clear BK515; clear HB; have BK515 := n0; have HB := n1; have BK525 := n2; have GW525 := n3; have GE525 := n4; have NB515_525 := n5; have NB525_515 := n6; clear n0 n1 n2 n3 n4 n5 n6; clear hb hbox hg; have hnb28 := NB525_515.out; have hnc28 := NB515_525.out; obtain ⟨hcz29_0, hcz29_1, hcz29_2, hcz29_3, hcz29_4, hfz29_0, hfz29_1, hfz29_2, hfz29_3, hfz29_4⟩ := bR5_ BK525.out; obtain ⟨hcz30_0, hcz30_1, hcz30_2, hcz30_3, hcz30_4, hfz30_0, hfz30_1, hfz30_2, hfz30_3, hfz30_4⟩ := bR5_ BK515.out))
         go_ret
         exact fI_ HB.out
        ·rw [if_neg c25] at H
         have c25b0 : (!(t519 == t510) || (!(t520 == t511) || (!(t521 == t512) || (!(t522 == t513) || (!(t523 == t514)))))) = false := by simpa using c25
         clear c25
         have H' := aM_ H
         clear H
         go_wp2_with (first | ((with_reducible refine gate_callee (f := 50) rfl ?_); refine gL_ (some 33) Tryd.func50 #[.string t516] ?_; (with_reducible refine (impl_InsRead.calls kj5 t516 t519 t520 t521 t522 t523 true _ A23.out ?sT).mono ?_); (case sT => first | with_reducible exact hT | exact TabT.Laid.below hT (by repeat (first | (with_reducible first | exact HB.out | apply hA_ | apply hN_ | apply hD_ | refine below_set ?_ GE515.out | refine below_set ?_ GE525.out | refine below_set ?_ GE533.out | refine below_set ?_ GE540.out) | exact HB.out))); rintro e w31 ⟨rfl, hb⟩; refine ⟨_, rfl, ?_⟩; have n0 := aM_ (nB_ BK515.out hb); have n1 := aM_ (sT_ HB.out hb); clear BK515; clear HB; have BK515 := n0; have HB := n1; clear n0 n1) | ((with_reducible refine gate_dst (N := 5) rfl ?_); refine bX_ 5 (cs := #[.int .i64 0, .int .i64 0, .int .i64 0, .int .i64 0, .int .i64 0]) (t := 32) ?_; intro gb525 hg w32 hbox hb; have n0 := aM_ (nB_ BK515.out hb); have n1 := aM_ (sT_ HB.out hb); have n2 := aM_ (hbox); have n3 := aM_ (sZ_ hg HB.out); have n4 := aM_ (sZ_ hg HB.out); have n5 := aM_ (nL_ hg BK515.out); have n6 := aM_ (nG_ hg BK515.out); clear BK515; clear HB; have BK515 := n0; have HB := n1; have BK525 := n2; have GW525 := n3; have GE525 := n4; have NB515_525 := n5; have NB525_515 := n6; clear n0 n1 n2 n3 n4 n5 n6; clear hb hbox hg; have hnb33 := NB525_515.out; have hnc33 := NB515_525.out; obtain ⟨hcz34_0, hcz34_1, hcz34_2, hcz34_3, hcz34_4, hfz34_0, hfz34_1, hfz34_2, hfz34_3, hfz34_4⟩ := bR5_ BK525.out; obtain ⟨hcz35_0, hcz35_1, hcz35_2, hcz35_3, hcz35_4, hfz35_0, hfz35_1, hfz35_2, hfz35_3, hfz35_4⟩ := bR5_ BK515.out))
         go_meet
         case rel => exact ⟨_, H', ⟨by have := HJ5.out; first | omega | exact Nat.le_refl _⟩, ⟨by (with_reducible repeat (first | refine bN_ ?_ _ | refine bD_ ?_ | refine bA_ ?_ _)); refine blk_far ?_ NB515_525.out _; (with_reducible repeat (first | refine bN_ ?_ _ | refine bD_ ?_ | refine bA_ ?_ _)); refine blk_far ?_ NB515_525.out _; (with_reducible repeat (first | refine bN_ ?_ _ | refine bD_ ?_ | refine bA_ ?_ _)); refine blk_far ?_ NB515_525.out _; (with_reducible repeat (first | refine bN_ ?_ _ | refine bD_ ?_ | refine bA_ ?_ _)); refine blk_far ?_ NB515_525.out _; (with_reducible repeat (first | refine bN_ ?_ _ | refine bD_ ?_ | refine bA_ ?_ _)); refine blk_far ?_ NB515_525.out _; (with_reducible repeat (first | refine bN_ ?_ _ | refine bD_ ?_ | refine bA_ ?_ _)); exact BK515.out⟩, ⟨gW_ HB.out⟩⟩
       ·replace c24 := Bool.eq_false_iff.mpr c24
        subst c24
        have H1 : (some false) = some r := by rw [if_neg (show ¬ (false = true) by decide)] at H; exact H
        clear H
        have H := H1
        clear H1
        obtain rfl := Option.some.inj H
        go_wp2_with (first | ((with_reducible refine gate_callee (f := 50) rfl ?_); refine gL_ (some 33) Tryd.func50 #[.string t516] ?_; (with_reducible refine (impl_InsRead.calls kj5 t516 t519 t520 t521 t522 t523 false _ A23.out ?sT).mono ?_); (case sT => first | with_reducible exact hT | exact TabT.Laid.below hT (by repeat (first | (with_reducible first | exact HB.out | apply hA_ | apply hN_ | apply hD_ | refine below_set ?_ GE515.out | refine below_set ?_ GE525.out | refine below_set ?_ GE533.out | refine below_set ?_ GE540.out) | exact HB.out))); rintro e w36 ⟨rfl, hb⟩; refine ⟨_, rfl, ?_⟩; have n0 := aM_ (nB_ BK515.out hb); have n1 := aM_ (sT_ HB.out hb); clear BK515; clear HB; have BK515 := n0; have HB := n1; clear n0 n1) | ((with_reducible refine gate_dst (N := 5) rfl ?_); refine bX_ 5 (cs := #[.int .i64 0, .int .i64 0, .int .i64 0, .int .i64 0, .int .i64 0]) (t := 32) ?_; intro gb525 hg w37 hbox hb; have n0 := aM_ (nB_ BK515.out hb); have n1 := aM_ (sT_ HB.out hb); have n2 := aM_ (hbox); have n3 := aM_ (sZ_ hg HB.out); have n4 := aM_ (sZ_ hg HB.out); have n5 := aM_ (nL_ hg BK515.out); have n6 := aM_ (nG_ hg BK515.out); clear BK515; clear HB; have BK515 := n0; have HB := n1; have BK525 := n2; have GW525 := n3; have GE525 := n4; have NB515_525 := n5; have NB525_515 := n6; clear n0 n1 n2 n3 n4 n5 n6; clear hb hbox hg; have hnb38 := NB525_515.out; have hnc38 := NB515_525.out; obtain ⟨hcz39_0, hcz39_1, hcz39_2, hcz39_3, hcz39_4, hfz39_0, hfz39_1, hfz39_2, hfz39_3, hfz39_4⟩ := bR5_ BK525.out))
        go_ret
        exact fI_ HB.out
     case rest =>
      clear HC21
      try clear c1
      try clear c2
      try clear p2
      try clear c3
      try clear c4
      try clear c5
      try clear c10
      try clear c12
      try clear c12b0
      try clear c12b1
      try clear c19
      try clear c20
      try clear c21
      try clear c22
      try clear c22b0
      try clear c22b1
      try clear c24
      try clear c25
      try clear c25b0
      try clear c28
      try clear c33
      try clear c38
      try clear hcz14_0
      try clear hcz14_1
      try clear hcz14_2
      try clear hcz14_3
      try clear hcz14_4
      try clear hcz16_0
      try clear hcz16_1
      try clear hcz16_2
      try clear hcz16_3
      try clear hcz16_4
      try clear hcz18_0
      try clear hcz18_1
      try clear hcz18_2
      try clear hcz18_3
      try clear hcz18_4
      try clear hcz29_0
      try clear hcz29_1
      try clear hcz29_2
      try clear hcz29_3
      try clear hcz29_4
      try clear hcz30_0
      try clear hcz30_1
      try clear hcz30_2
      try clear hcz30_3
      try clear hcz30_4
      try clear hcz34_0
      try clear hcz34_1
      try clear hcz34_2
      try clear hcz34_3
      try clear hcz34_4
      try clear hcz35_0
      try clear hcz35_1
      try clear hcz35_2
      try clear hcz35_3
      try clear hcz35_4
      try clear hcz39_0
      try clear hcz39_1
      try clear hcz39_2
      try clear hcz39_3
      try clear hcz39_4
      try clear hcz9_0
      try clear hcz9_1
      try clear hcz9_2
      try clear hcz9_3
      try clear hcz9_4
      try clear hfz14_0
      try clear hfz14_1
      try clear hfz14_2
      try clear hfz14_3
      try clear hfz14_4
      try clear hfz16_0
      try clear hfz16_1
      try clear hfz16_2
      try clear hfz16_3
      try clear hfz16_4
      try clear hfz18_0
      try clear hfz18_1
      try clear hfz18_2
      try clear hfz18_3
      try clear hfz18_4
      try clear hfz29_0
      try clear hfz29_1
      try clear hfz29_2
      try clear hfz29_3
      try clear hfz29_4
      try clear hfz30_0
      try clear hfz30_1
      try clear hfz30_2
      try clear hfz30_3
      try clear hfz30_4
      try clear hfz34_0
      try clear hfz34_1
      try clear hfz34_2
      try clear hfz34_3
      try clear hfz34_4
      try clear hfz35_0
      try clear hfz35_1
      try clear hfz35_2
      try clear hfz35_3
      try clear hfz35_4
      try clear hfz39_0
      try clear hfz39_1
      try clear hfz39_2
      try clear hfz39_3
      try clear hfz39_4
      try clear hfz9_0
      try clear hfz9_1
      try clear hfz9_2
      try clear hfz9_3
      try clear hfz9_4
      try clear p2
      obtain ⟨kq, HA, HJ20, BK515, HB⟩ := hcut
      cases kq with
      | zero => exact absurd HA.out (by simp [laws_FnInsText.j1])
      | succ kj20 =>
       have H := HA.out
       clear HA
       simp only [laws_FnInsText.j1] at H
       replace H := Option.bind_eq_some_iff.mp H
       obtain ⟨t526, A400, H⟩ := H
       replace H : ((impl_InsRead.f kj20 t526).bind fun bt527 => ((spec_InsRead.f kj20 t526).bind fun bt534 => (if (bt527.2.2.2.2.2 == bt534.2.2.2.2.2) = true then (if bt527.2.2.2.2.2 = true then ((impl_InsText.f kj20 bt527.1 bt527.2.1 bt527.2.2.1 bt527.2.2.2.1 bt527.2.2.2.2.1).bind fun t541 => (some (t541.toList == t526.toList))) else (if (bt527.1 == 0 && (bt527.2.1 == 0 && (bt527.2.2.1 == 0 && (bt527.2.2.2.1 == 0 && (bt527.2.2.2.2.1 == 0))))) = true then (some true) else (some false))) else (some false)))) = some r := H
       have A40 := aM_ A400
       clear A400
       replace H := Option.bind_eq_some_iff.mp H
       obtain ⟨⟨t527, t528, t529, t530, t531, t532⟩, A410, H⟩ := H
       replace H : ((spec_InsRead.f kj20 t526).bind fun bt534 => (if (t532 == bt534.2.2.2.2.2) = true then (if t532 = true then ((impl_InsText.f kj20 t527 t528 t529 t530 t531).bind fun t541 => (some (t541.toList == t526.toList))) else (if (t527 == 0 && (t528 == 0 && (t529 == 0 && (t530 == 0 && (t531 == 0))))) = true then (some true) else (some false))) else (some false))) = some r := H
       have A41 := aM_ A410
       clear A410
       replace H := Option.bind_eq_some_iff.mp H
       obtain ⟨⟨t534, t535, t536, t537, t538, t539⟩, A420, H⟩ := H
       replace H : (if (t532 == t539) = true then (if t532 = true then ((impl_InsText.f kj20 t527 t528 t529 t530 t531).bind fun t541 => (some (t541.toList == t526.toList))) else (if (t527 == 0 && (t528 == 0 && (t529 == 0 && (t530 == 0 && (t531 == 0))))) = true then (some true) else (some false))) else (some false)) = some r := H
       have A42 := aM_ A420
       clear A420
       by_cases c43 : (t532 == t539) = true
       ·rw [if_pos c43] at H
        have c43b0 : (t532 == t539) = true := c43
        (try (have c43b1 : decide (t532 = t539) = true := by simpa using c43))
        (try (have c43b2 : (t532 == t539) = true := by simpa using c43))
        clear c43
        by_cases c44 : t532 = true
        ·subst c44
         have H1 : ((impl_InsText.f kj20 t527 t528 t529 t530 t531).bind fun t541 => (some (t541.toList == t526.toList))) = some r := by rw [if_pos rfl] at H; exact H
         clear H
         have H := H1
         clear H1
         replace H := Option.bind_eq_some_iff.mp H
         obtain ⟨t541, A450, H⟩ := H
         replace H : (some (t541.toList == t526.toList)) = some r := H
         have A45 := aM_ A450
         clear A450
         obtain rfl := Option.some.inj H
         go_wp2_with (first | ((with_reducible refine gate_callee (f := 51) rfl ?_); refine gL_ (some 44) Tryd.func51 #[.slice A0 l0.length c0] ?_; (with_reducible refine (spec_DrawInsRead.calls kj20 _ _ l0 t526 _ ?side1 ?side2 A40.out).mono ?_); (case side1 => exact cS_ (Kd.C_below HR0.out HB.out)); (case side2 => exact HC0.out); rintro e w46 ⟨rfl, hb⟩; refine ⟨_, rfl, ?_⟩; have n0 := aM_ (nB_ BK515.out hb); have n1 := aM_ (sT_ HB.out hb); clear BK515; clear HB; have BK515 := n0; have HB := n1; clear n0 n1) | ((with_reducible refine gate_callee (f := 50) rfl ?_); refine gL_ (some 47) Tryd.func50 #[.string t526] ?_; (with_reducible refine (impl_InsRead.calls kj20 t526 t527 t528 t529 t530 t531 true _ A41.out ?sT).mono ?_); (case sT => first | with_reducible exact hT | exact TabT.Laid.below hT (by repeat (first | (with_reducible first | exact HB.out | apply hA_ | apply hN_ | apply hD_ | refine below_set ?_ GE515.out | refine below_set ?_ GE525.out | refine below_set ?_ GE533.out | refine below_set ?_ GE540.out) | exact HB.out))); rintro e w47 ⟨rfl, hb⟩; refine ⟨_, rfl, ?_⟩; have n0 := aM_ (nB_ BK515.out hb); have n1 := aM_ (sT_ HB.out hb); clear BK515; clear HB; have BK515 := n0; have HB := n1; clear n0 n1) | ((with_reducible refine gate_dst (N := 8) rfl ?_); refine bX_ 8 (cs := #[.int .i64 0, .int .i64 0, .int .i64 0, .int .i64 0, .int .i64 0]) (t := 32) ?_; intro gb533 hg w48 hbox hb; have n0 := aM_ (nB_ BK515.out hb); have n1 := aM_ (sT_ HB.out hb); have n2 := aM_ (hbox); have n3 := aM_ (sZ_ hg HB.out); have n4 := aM_ (sZ_ hg HB.out); have n5 := aM_ (nL_ hg BK515.out); have n6 := aM_ (nG_ hg BK515.out); clear BK515; clear HB; have BK515 := n0; have HB := n1; have BK533 := n2; have GW533 := n3; have GE533 := n4; have NB515_533 := n5; have NB533_515 := n6; clear n0 n1 n2 n3 n4 n5 n6; clear hb hbox hg; have hnb49 := NB533_515.out; have hnc49 := NB515_533.out; obtain ⟨hcz50_0, hcz50_1, hcz50_2, hcz50_3, hcz50_4, hfz50_0, hfz50_1, hfz50_2, hfz50_3, hfz50_4⟩ := bR5_ BK533.out) | ((with_reducible refine gate_callee (f := 52) rfl ?_); refine gL_ (some 52) Tryd.func52 #[.string t526] ?_; (with_reducible refine (spec_InsRead.calls kj20 t526 t534 t535 t536 t537 t538 t539 _ A42.out).mono ?_); rintro e w51 ⟨rfl, hb⟩; refine ⟨_, rfl, ?_⟩; have n0 := aM_ (blk_below (g := gb515) (o := .cells #[.int .i64 t510, .int .i64 t511, .int .i64 t512, .int .i64 t513, .int .i64 t514] 32 (0, 0)) (by (with_reducible repeat (first | refine bN_ ?_ _ | refine bD_ ?_ | refine bA_ ?_ _)); refine blk_far ?_ NB515_533.out _; (with_reducible repeat (first | refine bN_ ?_ _ | refine bD_ ?_ | refine bA_ ?_ _)); refine blk_far ?_ NB515_533.out _; (with_reducible repeat (first | refine bN_ ?_ _ | refine bD_ ?_ | refine bA_ ?_ _)); refine blk_far ?_ NB515_533.out _; (with_reducible repeat (first | refine bN_ ?_ _ | refine bD_ ?_ | refine bA_ ?_ _)); refine blk_far ?_ NB515_533.out _; (with_reducible repeat (first | refine bN_ ?_ _ | refine bD_ ?_ | refine bA_ ?_ _)); refine blk_far ?_ NB515_533.out _; (with_reducible repeat (first | refine bN_ ?_ _ | refine bD_ ?_ | refine bA_ ?_ _)); exact BK515.out) hb); have n1 := aM_ (blk_below (g := gb533) (o := .cells #[.int .i64 t527, .int .i64 t528, .int .i64 t529, .int .i64 t530, .int .i64 t531] 32 (0, 0)) (by (with_reducible repeat (first | refine bN_ ?_ _ | refine bD_ ?_ | refine bA_ ?_ _)); refine blk_put (cs := #[.int .i64 t527, .int .i64 t528, .int .i64 t529, .int .i64 t530, .int .i64 0]) ?_ 4 _ rfl; (with_reducible repeat (first | refine bN_ ?_ _ | refine bD_ ?_ | refine bA_ ?_ _)); refine blk_put (cs := #[.int .i64 t527, .int .i64 t528, .int .i64 t529, .int .i64 0, .int .i64 0]) ?_ 3 _ rfl; (with_reducible repeat (first | refine bN_ ?_ _ | refine bD_ ?_ | refine bA_ ?_ _)); refine blk_put (cs := #[.int .i64 t527, .int .i64 t528, .int .i64 0, .int .i64 0, .int .i64 0]) ?_ 2 _ rfl; (with_reducible repeat (first | refine bN_ ?_ _ | refine bD_ ?_ | refine bA_ ?_ _)); refine blk_put (cs := #[.int .i64 t527, .int .i64 0, .int .i64 0, .int .i64 0, .int .i64 0]) ?_ 1 _ rfl; (with_reducible repeat (first | refine bN_ ?_ _ | refine bD_ ?_ | refine bA_ ?_ _)); refine blk_put (cs := #[.int .i64 0, .int .i64 0, .int .i64 0, .int .i64 0, .int .i64 0]) ?_ 0 _ rfl; (with_reducible repeat (first | refine bN_ ?_ _ | refine bD_ ?_ | refine bA_ ?_ _)); exact BK533.out) hb); have n2 := aM_ (sT_ HB.out hb); clear BK515; clear BK533; clear HB; have BK515 := n0; have BK533 := n1; have HB := n2; clear n0 n1 n2) | ((with_reducible refine gate_dst (N := 10) rfl ?_); refine bX_ 10 (cs := #[.int .i64 0, .int .i64 0, .int .i64 0, .int .i64 0, .int .i64 0]) (t := 32) ?_; intro gb540 hg w52 hbox hb; have n0 := aM_ (nB_ BK515.out hb); have n1 := aM_ (nB_ BK533.out hb); have n2 := aM_ (sT_ HB.out hb); have n3 := aM_ (hbox); have n4 := aM_ (sZ_ hg HB.out); have n5 := aM_ (sZ_ hg HB.out); have n6 := aM_ (nL_ hg BK515.out); have n7 := aM_ (nG_ hg BK515.out); have n8 := aM_ (nL_ hg BK533.out); have n9 := aM_ (nG_ hg BK533.out); clear BK515; clear BK533; clear HB; have BK515 := n0; have BK533 := n1; have HB := n2; have BK540 := n3; have GW540 := n4; have GE540 := n5; have NB515_540 := n6; have NB540_515 := n7; have NB533_540 := n8; have NB540_533 := n9; clear n0 n1 n2 n3 n4 n5 n6 n7 n8 n9; clear hb hbox hg; have hnb53 := NB540_515.out; have hnc53 := NB515_540.out; have hnb54 := NB540_533.out; have hnc54 := NB533_540.out; obtain ⟨hcz55_0, hcz55_1, hcz55_2, hcz55_3, hcz55_4, hfz55_0, hfz55_1, hfz55_2, hfz55_3, hfz55_4⟩ := bR5_ BK540.out; obtain ⟨hcz56_0, hcz56_1, hcz56_2, hcz56_3, hcz56_4, hfz56_0, hfz56_1, hfz56_2, hfz56_3, hfz56_4⟩ := bR5_ BK533.out) | (go_at_call 21; (with_reducible refine (impl_InsText.calls kj20 t527 t528 t529 t530 t531 t541 _ A45.out ?sT).mono ?_); (case sT => first | with_reducible exact hT | exact TabT.Laid.below hT (by repeat (first | (with_reducible first | exact HB.out | apply hA_ | apply hN_ | apply hD_ | refine below_set ?_ GE515.out | refine below_set ?_ GE525.out | refine below_set ?_ GE533.out | refine below_set ?_ GE540.out) | exact HB.out))); rintro e w57 ⟨rfl, hb⟩; have n0 := aM_ (blk_below (g := gb515) (o := .cells #[.int .i64 t510, .int .i64 t511, .int .i64 t512, .int .i64 t513, .int .i64 t514] 32 (0, 0)) (by (with_reducible repeat (first | refine bN_ ?_ _ | refine bD_ ?_ | refine bA_ ?_ _)); refine blk_far ?_ NB515_540.out _; (with_reducible repeat (first | refine bN_ ?_ _ | refine bD_ ?_ | refine bA_ ?_ _)); refine blk_far ?_ NB515_540.out _; (with_reducible repeat (first | refine bN_ ?_ _ | refine bD_ ?_ | refine bA_ ?_ _)); refine blk_far ?_ NB515_540.out _; (with_reducible repeat (first | refine bN_ ?_ _ | refine bD_ ?_ | refine bA_ ?_ _)); refine blk_far ?_ NB515_540.out _; (with_reducible repeat (first | refine bN_ ?_ _ | refine bD_ ?_ | refine bA_ ?_ _)); refine blk_far ?_ NB515_540.out _; (with_reducible repeat (first | refine bN_ ?_ _ | refine bD_ ?_ | refine bA_ ?_ _)); exact BK515.out) hb); have n1 := aM_ (blk_below (g := gb533) (o := .cells #[.int .i64 t527, .int .i64 t528, .int .i64 t529, .int .i64 t530, .int .i64 t531] 32 (0, 0)) (by (with_reducible repeat (first | refine bN_ ?_ _ | refine bD_ ?_ | refine bA_ ?_ _)); refine blk_far ?_ NB533_540.out _; (with_reducible repeat (first | refine bN_ ?_ _ | refine bD_ ?_ | refine bA_ ?_ _)); refine blk_far ?_ NB533_540.out _; (with_reducible repeat (first | refine bN_ ?_ _ | refine bD_ ?_ | refine bA_ ?_ _)); refine blk_far ?_ NB533_540.out _; (with_reducible repeat (first | refine bN_ ?_ _ | refine bD_ ?_ | refine bA_ ?_ _)); refine blk_far ?_ NB533_540.out _; (with_reducible repeat (first | refine bN_ ?_ _ | refine bD_ ?_ | refine bA_ ?_ _)); refine blk_far ?_ NB533_540.out _; (with_reducible repeat (first | refine bN_ ?_ _ | refine bD_ ?_ | refine bA_ ?_ _)); exact BK533.out) hb); have n2 := aM_ (blk_below (g := gb540) (o := .cells #[.int .i64 t534, .int .i64 t535, .int .i64 t536, .int .i64 t537, .int .i64 t538] 32 (0, 0)) (by (with_reducible repeat (first | refine bN_ ?_ _ | refine bD_ ?_ | refine bA_ ?_ _)); refine blk_put (cs := #[.int .i64 t534, .int .i64 t535, .int .i64 t536, .int .i64 t537, .int .i64 0]) ?_ 4 _ rfl; (with_reducible repeat (first | refine bN_ ?_ _ | refine bD_ ?_ | refine bA_ ?_ _)); refine blk_put (cs := #[.int .i64 t534, .int .i64 t535, .int .i64 t536, .int .i64 0, .int .i64 0]) ?_ 3 _ rfl; (with_reducible repeat (first | refine bN_ ?_ _ | refine bD_ ?_ | refine bA_ ?_ _)); refine blk_put (cs := #[.int .i64 t534, .int .i64 t535, .int .i64 0, .int .i64 0, .int .i64 0]) ?_ 2 _ rfl; (with_reducible repeat (first | refine bN_ ?_ _ | refine bD_ ?_ | refine bA_ ?_ _)); refine blk_put (cs := #[.int .i64 t534, .int .i64 0, .int .i64 0, .int .i64 0, .int .i64 0]) ?_ 1 _ rfl; (with_reducible repeat (first | refine bN_ ?_ _ | refine bD_ ?_ | refine bA_ ?_ _)); refine blk_put (cs := #[.int .i64 0, .int .i64 0, .int .i64 0, .int .i64 0, .int .i64 0]) ?_ 0 _ rfl; (with_reducible repeat (first | refine bN_ ?_ _ | refine bD_ ?_ | refine bA_ ?_ _)); exact BK540.out) hb); have n3 := aM_ (sT_ HB.out hb); clear BK515; clear BK533; clear BK540; clear HB; have BK515 := n0; have BK533 := n1; have BK540 := n2; have HB := n3; clear n0 n1 n2 n3))
         go_ret
         exact fI_ HB.out
        ·replace c44 := Bool.eq_false_iff.mpr c44
         subst c44
         have H1 : (if (t527 == 0 && (t528 == 0 && (t529 == 0 && (t530 == 0 && (t531 == 0))))) = true then (some true) else (some false)) = some r := by rw [if_neg (show ¬ (false = true) by decide)] at H; exact H
         clear H
         have H := H1
         clear H1
         by_cases c58 : (t527 == 0 && (t528 == 0 && (t529 == 0 && (t530 == 0 && (t531 == 0))))) = true
         ·rw [if_pos c58] at H
          have c58b0 : (t527 == 0 && (t528 == 0 && (t529 == 0 && (t530 == 0 && (t531 == 0))))) = true := c58
          (try (have c58b1 : decide (t527 = 0 && (t528 == 0 && (t529 == 0 && (t530 == 0 && (t531 == 0))))) = true := by simpa using c58))
          (try (have c58b2 : (t527 == 0 && (t528 == 0 && (t529 == 0 && (t530 == 0 && (t531 == 0))))) = true := by simpa using c58))
          clear c58
          obtain rfl := Option.some.inj H
          go_wp2_with (first | ((with_reducible refine gate_callee (f := 51) rfl ?_); refine gL_ (some 44) Tryd.func51 #[.slice A0 l0.length c0] ?_; (with_reducible refine (spec_DrawInsRead.calls kj20 _ _ l0 t526 _ ?side1 ?side2 A40.out).mono ?_); (case side1 => exact cS_ (Kd.C_below HR0.out HB.out)); (case side2 => exact HC0.out); rintro e w59 ⟨rfl, hb⟩; refine ⟨_, rfl, ?_⟩; have n0 := aM_ (nB_ BK515.out hb); have n1 := aM_ (sT_ HB.out hb); clear BK515; clear HB; have BK515 := n0; have HB := n1; clear n0 n1) | ((with_reducible refine gate_callee (f := 50) rfl ?_); refine gL_ (some 47) Tryd.func50 #[.string t526] ?_; (with_reducible refine (impl_InsRead.calls kj20 t526 t527 t528 t529 t530 t531 false _ A41.out ?sT).mono ?_); (case sT => first | with_reducible exact hT | exact TabT.Laid.below hT (by repeat (first | (with_reducible first | exact HB.out | apply hA_ | apply hN_ | apply hD_ | refine below_set ?_ GE515.out | refine below_set ?_ GE525.out | refine below_set ?_ GE533.out | refine below_set ?_ GE540.out) | exact HB.out))); rintro e w60 ⟨rfl, hb⟩; refine ⟨_, rfl, ?_⟩; have n0 := aM_ (nB_ BK515.out hb); have n1 := aM_ (sT_ HB.out hb); clear BK515; clear HB; have BK515 := n0; have HB := n1; clear n0 n1) | ((with_reducible refine gate_dst (N := 8) rfl ?_); refine bX_ 8 (cs := #[.int .i64 0, .int .i64 0, .int .i64 0, .int .i64 0, .int .i64 0]) (t := 32) ?_; intro gb533 hg w61 hbox hb; have n0 := aM_ (nB_ BK515.out hb); have n1 := aM_ (sT_ HB.out hb); have n2 := aM_ (hbox); have n3 := aM_ (sZ_ hg HB.out); have n4 := aM_ (sZ_ hg HB.out); have n5 := aM_ (nL_ hg BK515.out); have n6 := aM_ (nG_ hg BK515.out); clear BK515; clear HB; have BK515 := n0; have HB := n1; have BK533 := n2; have GW533 := n3; have GE533 := n4; have NB515_533 := n5; have NB533_515 := n6; clear n0 n1 n2 n3 n4 n5 n6; clear hb hbox hg; have hnb62 := NB533_515.out; have hnc62 := NB515_533.out; obtain ⟨hcz63_0, hcz63_1, hcz63_2, hcz63_3, hcz63_4, hfz63_0, hfz63_1, hfz63_2, hfz63_3, hfz63_4⟩ := bR5_ BK533.out) | ((with_reducible refine gate_callee (f := 52) rfl ?_); refine gL_ (some 52) Tryd.func52 #[.string t526] ?_; (with_reducible refine (spec_InsRead.calls kj20 t526 t534 t535 t536 t537 t538 t539 _ A42.out).mono ?_); rintro e w64 ⟨rfl, hb⟩; refine ⟨_, rfl, ?_⟩; have n0 := aM_ (blk_below (g := gb515) (o := .cells #[.int .i64 t510, .int .i64 t511, .int .i64 t512, .int .i64 t513, .int .i64 t514] 32 (0, 0)) (by (with_reducible repeat (first | refine bN_ ?_ _ | refine bD_ ?_ | refine bA_ ?_ _)); refine blk_far ?_ NB515_533.out _; (with_reducible repeat (first | refine bN_ ?_ _ | refine bD_ ?_ | refine bA_ ?_ _)); refine blk_far ?_ NB515_533.out _; (with_reducible repeat (first | refine bN_ ?_ _ | refine bD_ ?_ | refine bA_ ?_ _)); refine blk_far ?_ NB515_533.out _; (with_reducible repeat (first | refine bN_ ?_ _ | refine bD_ ?_ | refine bA_ ?_ _)); refine blk_far ?_ NB515_533.out _; (with_reducible repeat (first | refine bN_ ?_ _ | refine bD_ ?_ | refine bA_ ?_ _)); refine blk_far ?_ NB515_533.out _; (with_reducible repeat (first | refine bN_ ?_ _ | refine bD_ ?_ | refine bA_ ?_ _)); exact BK515.out) hb); have n1 := aM_ (blk_below (g := gb533) (o := .cells #[.int .i64 t527, .int .i64 t528, .int .i64 t529, .int .i64 t530, .int .i64 t531] 32 (0, 0)) (by (with_reducible repeat (first | refine bN_ ?_ _ | refine bD_ ?_ | refine bA_ ?_ _)); refine blk_put (cs := #[.int .i64 t527, .int .i64 t528, .int .i64 t529, .int .i64 t530, .int .i64 0]) ?_ 4 _ rfl; (with_reducible repeat (first | refine bN_ ?_ _ | refine bD_ ?_ | refine bA_ ?_ _)); refine blk_put (cs := #[.int .i64 t527, .int .i64 t528, .int .i64 t529, .int .i64 0, .int .i64 0]) ?_ 3 _ rfl; (with_reducible repeat (first | refine bN_ ?_ _ | refine bD_ ?_ | refine bA_ ?_ _)); refine blk_put (cs := #[.int .i64 t527, .int .i64 t528, .int .i64 0, .int .i64 0, .int .i64 0]) ?_ 2 _ rfl; (with_reducible repeat (first | refine bN_ ?_ _ | refine bD_ ?_ | refine bA_ ?_ _)); refine blk_put (cs := #[.int .i64 t527, .int .i64 0, .int .i64 0, .int .i64 0, .int .i64 0]) ?_ 1 _ rfl; (with_reducible repeat (first | refine bN_ ?_ _ | refine bD_ ?_ | refine bA_ ?_ _)); refine blk_put (cs := #[.int .i64 0, .int .i64 0, .int .i64 0, .int .i64 0, .int .i64 0]) ?_ 0 _ rfl; (with_reducible repeat (first | refine bN_ ?_ _ | refine bD_ ?_ | refine bA_ ?_ _)); exact BK533.out) hb); have n2 := aM_ (sT_ HB.out hb); clear BK515; clear BK533; clear HB; have BK515 := n0; have BK533 := n1; have HB := n2; clear n0 n1 n2) | ((with_reducible refine gate_dst (N := 10) rfl ?_); refine bX_ 10 (cs := #[.int .i64 0, .int .i64 0, .int .i64 0, .int .i64 0, .int .i64 0]) (t := 32) ?_; intro gb540 hg w65 hbox hb; have n0 := aM_ (nB_ BK515.out hb); have n1 := aM_ (nB_ BK533.out hb); have n2 := aM_ (sT_ HB.out hb); have n3 := aM_ (hbox); have n4 := aM_ (sZ_ hg HB.out); have n5 := aM_ (sZ_ hg HB.out); have n6 := aM_ (nL_ hg BK515.out); have n7 := aM_ (nG_ hg BK515.out); have n8 := aM_ (nL_ hg BK533.out); have n9 := aM_ (nG_ hg BK533.out); clear BK515; clear BK533; clear HB; have BK515 := n0; have BK533 := n1; have HB := n2; have BK540 := n3; have GW540 := n4; have GE540 := n5; have NB515_540 := n6; have NB540_515 := n7; have NB533_540 := n8; have NB540_533 := n9; clear n0 n1 n2 n3 n4 n5 n6 n7 n8 n9; clear hb hbox hg; have hnb66 := NB540_515.out; have hnc66 := NB515_540.out; have hnb67 := NB540_533.out; have hnc67 := NB533_540.out; obtain ⟨hcz68_0, hcz68_1, hcz68_2, hcz68_3, hcz68_4, hfz68_0, hfz68_1, hfz68_2, hfz68_3, hfz68_4⟩ := bR5_ BK540.out; obtain ⟨hcz69_0, hcz69_1, hcz69_2, hcz69_3, hcz69_4, hfz69_0, hfz69_1, hfz69_2, hfz69_3, hfz69_4⟩ := bR5_ BK533.out))
          go_ret
          exact fI_ HB.out
         ·rw [if_neg c58] at H
          have c58b0 : (t527 == 0 && (t528 == 0 && (t529 == 0 && (t530 == 0 && (t531 == 0))))) = false := by simpa using c58
          (try (have c58b1 : decide (t527 = 0 && (t528 == 0 && (t529 == 0 && (t530 == 0 && (t531 == 0))))) = false := by simpa using c58))
          (try (have c58b2 : (t527 == 0 && (t528 == 0 && (t529 == 0 && (t530 == 0 && (t531 == 0))))) = false := by simpa using c58))
          (try (have c58b3 : ¬ (t527 = 0 && (t528 == 0 && (t529 == 0 && (t530 == 0 && (t531 == 0))))) := by simpa using c58))
          clear c58
          obtain rfl := Option.some.inj H
          go_wp2_with (first | ((with_reducible refine gate_callee (f := 51) rfl ?_); refine gL_ (some 44) Tryd.func51 #[.slice A0 l0.length c0] ?_; (with_reducible refine (spec_DrawInsRead.calls kj20 _ _ l0 t526 _ ?side1 ?side2 A40.out).mono ?_); (case side1 => exact cS_ (Kd.C_below HR0.out HB.out)); (case side2 => exact HC0.out); rintro e w70 ⟨rfl, hb⟩; refine ⟨_, rfl, ?_⟩; have n0 := aM_ (nB_ BK515.out hb); have n1 := aM_ (sT_ HB.out hb); clear BK515; clear HB; have BK515 := n0; have HB := n1; clear n0 n1) | ((with_reducible refine gate_callee (f := 50) rfl ?_); refine gL_ (some 47) Tryd.func50 #[.string t526] ?_; (with_reducible refine (impl_InsRead.calls kj20 t526 t527 t528 t529 t530 t531 false _ A41.out ?sT).mono ?_); (case sT => first | with_reducible exact hT | exact TabT.Laid.below hT (by repeat (first | (with_reducible first | exact HB.out | apply hA_ | apply hN_ | apply hD_ | refine below_set ?_ GE515.out | refine below_set ?_ GE525.out | refine below_set ?_ GE533.out | refine below_set ?_ GE540.out) | exact HB.out))); rintro e w71 ⟨rfl, hb⟩; refine ⟨_, rfl, ?_⟩; have n0 := aM_ (nB_ BK515.out hb); have n1 := aM_ (sT_ HB.out hb); clear BK515; clear HB; have BK515 := n0; have HB := n1; clear n0 n1) | ((with_reducible refine gate_dst (N := 8) rfl ?_); refine bX_ 8 (cs := #[.int .i64 0, .int .i64 0, .int .i64 0, .int .i64 0, .int .i64 0]) (t := 32) ?_; intro gb533 hg w72 hbox hb; have n0 := aM_ (nB_ BK515.out hb); have n1 := aM_ (sT_ HB.out hb); have n2 := aM_ (hbox); have n3 := aM_ (sZ_ hg HB.out); have n4 := aM_ (sZ_ hg HB.out); have n5 := aM_ (nL_ hg BK515.out); have n6 := aM_ (nG_ hg BK515.out); clear BK515; clear HB; have BK515 := n0; have HB := n1; have BK533 := n2; have GW533 := n3; have GE533 := n4; have NB515_533 := n5; have NB533_515 := n6; clear n0 n1 n2 n3 n4 n5 n6; clear hb hbox hg; have hnb73 := NB533_515.out; have hnc73 := NB515_533.out; obtain ⟨hcz74_0, hcz74_1, hcz74_2, hcz74_3, hcz74_4, hfz74_0, hfz74_1, hfz74_2, hfz74_3, hfz74_4⟩ := bR5_ BK533.out) | ((with_reducible refine gate_callee (f := 52) rfl ?_); refine gL_ (some 52) Tryd.func52 #[.string t526] ?_; (with_reducible refine (spec_InsRead.calls kj20 t526 t534 t535 t536 t537 t538 t539 _ A42.out).mono ?_); rintro e w75 ⟨rfl, hb⟩; refine ⟨_, rfl, ?_⟩; have n0 := aM_ (blk_below (g := gb515) (o := .cells #[.int .i64 t510, .int .i64 t511, .int .i64 t512, .int .i64 t513, .int .i64 t514] 32 (0, 0)) (by (with_reducible repeat (first | refine bN_ ?_ _ | refine bD_ ?_ | refine bA_ ?_ _)); refine blk_far ?_ NB515_533.out _; (with_reducible repeat (first | refine bN_ ?_ _ | refine bD_ ?_ | refine bA_ ?_ _)); refine blk_far ?_ NB515_533.out _; (with_reducible repeat (first | refine bN_ ?_ _ | refine bD_ ?_ | refine bA_ ?_ _)); refine blk_far ?_ NB515_533.out _; (with_reducible repeat (first | refine bN_ ?_ _ | refine bD_ ?_ | refine bA_ ?_ _)); refine blk_far ?_ NB515_533.out _; (with_reducible repeat (first | refine bN_ ?_ _ | refine bD_ ?_ | refine bA_ ?_ _)); refine blk_far ?_ NB515_533.out _; (with_reducible repeat (first | refine bN_ ?_ _ | refine bD_ ?_ | refine bA_ ?_ _)); exact BK515.out) hb); have n1 := aM_ (blk_below (g := gb533) (o := .cells #[.int .i64 t527, .int .i64 t528, .int .i64 t529, .int .i64 t530, .int .i64 t531] 32 (0, 0)) (by (with_reducible repeat (first | refine bN_ ?_ _ | refine bD_ ?_ | refine bA_ ?_ _)); refine blk_put (cs := #[.int .i64 t527, .int .i64 t528, .int .i64 t529, .int .i64 t530, .int .i64 0]) ?_ 4 _ rfl; (with_reducible repeat (first | refine bN_ ?_ _ | refine bD_ ?_ | refine bA_ ?_ _)); refine blk_put (cs := #[.int .i64 t527, .int .i64 t528, .int .i64 t529, .int .i64 0, .int .i64 0]) ?_ 3 _ rfl; (with_reducible repeat (first | refine bN_ ?_ _ | refine bD_ ?_ | refine bA_ ?_ _)); refine blk_put (cs := #[.int .i64 t527, .int .i64 t528, .int .i64 0, .int .i64 0, .int .i64 0]) ?_ 2 _ rfl; (with_reducible repeat (first | refine bN_ ?_ _ | refine bD_ ?_ | refine bA_ ?_ _)); refine blk_put (cs := #[.int .i64 t527, .int .i64 0, .int .i64 0, .int .i64 0, .int .i64 0]) ?_ 1 _ rfl; (with_reducible repeat (first | refine bN_ ?_ _ | refine bD_ ?_ | refine bA_ ?_ _)); refine blk_put (cs := #[.int .i64 0, .int .i64 0, .int .i64 0, .int .i64 0, .int .i64 0]) ?_ 0 _ rfl; (with_reducible repeat (first | refine bN_ ?_ _ | refine bD_ ?_ | refine bA_ ?_ _)); exact BK533.out) hb); have n2 := aM_ (sT_ HB.out hb); clear BK515; clear BK533; clear HB; have BK515 := n0; have BK533 := n1; have HB := n2; clear n0 n1 n2) | ((with_reducible refine gate_dst (N := 10) rfl ?_); refine bX_ 10 (cs := #[.int .i64 0, .int .i64 0, .int .i64 0, .int .i64 0, .int .i64 0]) (t := 32) ?_; intro gb540 hg w76 hbox hb; have n0 := aM_ (nB_ BK515.out hb); have n1 := aM_ (nB_ BK533.out hb); have n2 := aM_ (sT_ HB.out hb); have n3 := aM_ (hbox); have n4 := aM_ (sZ_ hg HB.out); have n5 := aM_ (sZ_ hg HB.out); have n6 := aM_ (nL_ hg BK515.out); have n7 := aM_ (nG_ hg BK515.out); have n8 := aM_ (nL_ hg BK533.out); have n9 := aM_ (nG_ hg BK533.out); clear BK515; clear BK533; clear HB; have BK515 := n0; have BK533 := n1; have HB := n2; have BK540 := n3; have GW540 := n4; have GE540 := n5; have NB515_540 := n6; have NB540_515 := n7; have NB533_540 := n8; have NB540_533 := n9; clear n0 n1 n2 n3 n4 n5 n6 n7 n8 n9; clear hb hbox hg; have hnb77 := NB540_515.out; have hnc77 := NB515_540.out; have hnb78 := NB540_533.out; have hnc78 := NB533_540.out; obtain ⟨hcz79_0, hcz79_1, hcz79_2, hcz79_3, hcz79_4, hfz79_0, hfz79_1, hfz79_2, hfz79_3, hfz79_4⟩ := bR5_ BK540.out; obtain ⟨hcz80_0, hcz80_1, hcz80_2, hcz80_3, hcz80_4, hfz80_0, hfz80_1, hfz80_2, hfz80_3, hfz80_4⟩ := bR5_ BK533.out))
          go_ret
          exact fI_ HB.out
       ·rw [if_neg c43] at H
        have c43b0 : (t532 == t539) = false := by simpa using c43
        (try (have c43b1 : decide (t532 = t539) = false := by simpa using c43))
        (try (have c43b2 : (t532 == t539) = false := by simpa using c43))
        (try (have c43b3 : ¬ (t532 = t539) := by simpa using c43))
        clear c43
        obtain rfl := Option.some.inj H
        go_wp2_with (first | ((with_reducible refine gate_callee (f := 51) rfl ?_); refine gL_ (some 44) Tryd.func51 #[.slice A0 l0.length c0] ?_; (with_reducible refine (spec_DrawInsRead.calls kj20 _ _ l0 t526 _ ?side1 ?side2 A40.out).mono ?_); (case side1 => exact cS_ (Kd.C_below HR0.out HB.out)); (case side2 => exact HC0.out); rintro e w81 ⟨rfl, hb⟩; refine ⟨_, rfl, ?_⟩; have n0 := aM_ (nB_ BK515.out hb); have n1 := aM_ (sT_ HB.out hb); clear BK515; clear HB; have BK515 := n0; have HB := n1; clear n0 n1) | ((with_reducible refine gate_callee (f := 50) rfl ?_); refine gL_ (some 47) Tryd.func50 #[.string t526] ?_; (with_reducible refine (impl_InsRead.calls kj20 t526 t527 t528 t529 t530 t531 t532 _ A41.out ?sT).mono ?_); (case sT => first | with_reducible exact hT | exact TabT.Laid.below hT (by repeat (first | (with_reducible first | exact HB.out | apply hA_ | apply hN_ | apply hD_ | refine below_set ?_ GE515.out | refine below_set ?_ GE525.out | refine below_set ?_ GE533.out | refine below_set ?_ GE540.out) | exact HB.out))); rintro e w82 ⟨rfl, hb⟩; refine ⟨_, rfl, ?_⟩; have n0 := aM_ (nB_ BK515.out hb); have n1 := aM_ (sT_ HB.out hb); clear BK515; clear HB; have BK515 := n0; have HB := n1; clear n0 n1) | ((with_reducible refine gate_dst (N := 8) rfl ?_); refine bX_ 8 (cs := #[.int .i64 0, .int .i64 0, .int .i64 0, .int .i64 0, .int .i64 0]) (t := 32) ?_; intro gb533 hg w83 hbox hb; have n0 := aM_ (nB_ BK515.out hb); have n1 := aM_ (sT_ HB.out hb); have n2 := aM_ (hbox); have n3 := aM_ (sZ_ hg HB.out); have n4 := aM_ (sZ_ hg HB.out); have n5 := aM_ (nL_ hg BK515.out); have n6 := aM_ (nG_ hg BK515.out); clear BK515; clear HB; have BK515 := n0; have HB := n1; have BK533 := n2; have GW533 := n3; have GE533 := n4; have NB515_533 := n5; have NB533_515 := n6; clear n0 n1 n2 n3 n4 n5 n6; clear hb hbox hg; have hnb84 := NB533_515.out; have hnc84 := NB515_533.out; obtain ⟨hcz85_0, hcz85_1, hcz85_2, hcz85_3, hcz85_4, hfz85_0, hfz85_1, hfz85_2, hfz85_3, hfz85_4⟩ := bR5_ BK533.out) | ((with_reducible refine gate_callee (f := 52) rfl ?_); refine gL_ (some 52) Tryd.func52 #[.string t526] ?_; (with_reducible refine (spec_InsRead.calls kj20 t526 t534 t535 t536 t537 t538 t539 _ A42.out).mono ?_); rintro e w86 ⟨rfl, hb⟩; refine ⟨_, rfl, ?_⟩; have n0 := aM_ (blk_below (g := gb515) (o := .cells #[.int .i64 t510, .int .i64 t511, .int .i64 t512, .int .i64 t513, .int .i64 t514] 32 (0, 0)) (by (with_reducible repeat (first | refine bN_ ?_ _ | refine bD_ ?_ | refine bA_ ?_ _)); refine blk_far ?_ NB515_533.out _; (with_reducible repeat (first | refine bN_ ?_ _ | refine bD_ ?_ | refine bA_ ?_ _)); refine blk_far ?_ NB515_533.out _; (with_reducible repeat (first | refine bN_ ?_ _ | refine bD_ ?_ | refine bA_ ?_ _)); refine blk_far ?_ NB515_533.out _; (with_reducible repeat (first | refine bN_ ?_ _ | refine bD_ ?_ | refine bA_ ?_ _)); refine blk_far ?_ NB515_533.out _; (with_reducible repeat (first | refine bN_ ?_ _ | refine bD_ ?_ | refine bA_ ?_ _)); refine blk_far ?_ NB515_533.out _; (with_reducible repeat (first | refine bN_ ?_ _ | refine bD_ ?_ | refine bA_ ?_ _)); exact BK515.out) hb); have n1 := aM_ (blk_below (g := gb533) (o := .cells #[.int .i64 t527, .int .i64 t528, .int .i64 t529, .int .i64 t530, .int .i64 t531] 32 (0, 0)) (by (with_reducible repeat (first | refine bN_ ?_ _ | refine bD_ ?_ | refine bA_ ?_ _)); refine blk_put (cs := #[.int .i64 t527, .int .i64 t528, .int .i64 t529, .int .i64 t530, .int .i64 0]) ?_ 4 _ rfl; (with_reducible repeat (first | refine bN_ ?_ _ | refine bD_ ?_ | refine bA_ ?_ _)); refine blk_put (cs := #[.int .i64 t527, .int .i64 t528, .int .i64 t529, .int .i64 0, .int .i64 0]) ?_ 3 _ rfl; (with_reducible repeat (first | refine bN_ ?_ _ | refine bD_ ?_ | refine bA_ ?_ _)); refine blk_put (cs := #[.int .i64 t527, .int .i64 t528, .int .i64 0, .int .i64 0, .int .i64 0]) ?_ 2 _ rfl; (with_reducible repeat (first | refine bN_ ?_ _ | refine bD_ ?_ | refine bA_ ?_ _)); refine blk_put (cs := #[.int .i64 t527, .int .i64 0, .int .i64 0, .int .i64 0, .int .i64 0]) ?_ 1 _ rfl; (with_reducible repeat (first | refine bN_ ?_ _ | refine bD_ ?_ | refine bA_ ?_ _)); refine blk_put (cs := #[.int .i64 0, .int .i64 0, .int .i64 0, .int .i64 0, .int .i64 0]) ?_ 0 _ rfl; (with_reducible repeat (first | refine bN_ ?_ _ | refine bD_ ?_ | refine bA_ ?_ _)); exact BK533.out) hb); have n2 := aM_ (sT_ HB.out hb); clear BK515; clear BK533; clear HB; have BK515 := n0; have BK533 := n1; have HB := n2; clear n0 n1 n2) | ((with_reducible refine gate_dst (N := 10) rfl ?_); refine bX_ 10 (cs := #[.int .i64 0, .int .i64 0, .int .i64 0, .int .i64 0, .int .i64 0]) (t := 32) ?_; intro gb540 hg w87 hbox hb; have n0 := aM_ (nB_ BK515.out hb); have n1 := aM_ (nB_ BK533.out hb); have n2 := aM_ (sT_ HB.out hb); have n3 := aM_ (hbox); have n4 := aM_ (sZ_ hg HB.out); have n5 := aM_ (sZ_ hg HB.out); have n6 := aM_ (nL_ hg BK515.out); have n7 := aM_ (nG_ hg BK515.out); have n8 := aM_ (nL_ hg BK533.out); have n9 := aM_ (nG_ hg BK533.out); clear BK515; clear BK533; clear HB; have BK515 := n0; have BK533 := n1; have HB := n2; have BK540 := n3; have GW540 := n4; have GE540 := n5; have NB515_540 := n6; have NB540_515 := n7; have NB533_540 := n8; have NB540_533 := n9; clear n0 n1 n2 n3 n4 n5 n6 n7 n8 n9; clear hb hbox hg; have hnb88 := NB540_515.out; have hnc88 := NB515_540.out; have hnb89 := NB540_533.out; have hnc89 := NB533_540.out; obtain ⟨hcz90_0, hcz90_1, hcz90_2, hcz90_3, hcz90_4, hfz90_0, hfz90_1, hfz90_2, hfz90_3, hfz90_4⟩ := bR5_ BK540.out))
        go_ret
        exact fI_ HB.out
end Go.Proofs.YtkjfcmgpplapeaaDoor.PFnInsText
namespace Go.Proofs.YtkjfcmgpplapeaaDoor.Lp
open Go.RowKit Go.Proofs.YtkjfcmgpplapeaaDoorW.PrintWords
set_option linter.unusedVariables false
set_option linter.unusedSimpArgs false
theorem wrapS {j n : Nat} (h : j < n) (hn : n ≤ 9223372036854775807) : wrap64 ((j : Int) + 1) = ((j + 1 : Nat) : Int) := by
  unfold wrap64; omega
theorem wrap_in {n : Int} (h0 : -9223372036854775808 ≤ n) (h1 : n ≤ 9223372036854775807) : wrap64 n = n := by
  unfold wrap64; omega
theorem rd_get {xs : List Int} {j : Nat} (h : j < xs.length) : rd xs (j : Int) = xs[j] := by simp [rd, List.getD_eq_getElem?_getD, h]
theorem count_up {ρ : Type} {L : Nat → Nat → Option ρ} {R : Nat → ρ} {n : Nat} (hend : Ev (L n) (R n)) (hstep : ∀ j, j < n → Ev (L (j + 1)) (R (j + 1)) → Ev (L j) (R j)) : ∀ j, j ≤ n → Ev (L j) (R j) := by
  have key : ∀ d j, j + d = n → Ev (L j) (R j) := by
    intro d
    induction d with
    | zero => intro j hj; obtain rfl : j = n := by omega
              exact hend
    | succ d ih => intro j hj; exact hstep j (by omega) (ih (j + 1) (by omega))
  exact fun j hj => key (n - j) j (by omega)
theorem Ev.one {α : Type} {g : Nat → Option α} {r : α} (h : ∀ k, g (k + 1) = some r) : Ev g r := ⟨1, fun k hk => by
  obtain ⟨m, rfl⟩ : ∃ m, k = m + 1 := ⟨k - 1, by omega⟩
  exact h m⟩
theorem Ev.all {α : Type} {g : Nat → Option α} {r : α} (h : ∀ k, g k = some r) : Ev g r := ⟨0, fun k _ => h k⟩
theorem Ev.val {α : Type} {g : Nat → Option α} {r r' : α} (h : r = r') (k : Ev g r) : Ev g r' := h ▸ k
theorem Ev.ite_pos {α : Type} {c : Prop} [Decidable c] {g f : Nat → Option α} {r : α} (h : c) (k : Ev g r) : Ev (fun n => if c then g n else f n) r := by simp only [if_pos h]; exact k
theorem Ev.ite_neg {α : Type} {c : Prop} [Decidable c] {g f : Nat → Option α} {r : α} (h : ¬ c) (k : Ev f r) : Ev (fun n => if c then g n else f n) r := by simp only [if_neg h]; exact k
end Go.Proofs.YtkjfcmgpplapeaaDoor.Lp
