/- A part of the proof that the law FnExactInsRead holds for every input: the words, functions and walks that its row needs, without a condition of their own. -/
import Derived.Test.YtkjfcmgpplapeaaDoorZFnExactInsReada4
import Derived.Test.YtkjfcmgpplapeaaDoorZFnExactInsReada11
import Derived.Test.YtkjfcmgpplapeaaDoorZFnExactInsReads
namespace Go.Proofs.YtkjfcmgpplapeaaDoor.PFnExactInsRead
open Go.RowKit Go.Proofs.YtkjfcmgpplapeaaDoorW.PrintWords Go.Proofs.YtkjfcmgpplapeaaDoorW.PrintLast Go.Proofs.YtkjfcmgpplapeaaDoorW.PrintMore
attribute [local go_sem] max2_int min2_int max_two min_two max_three min_three max_four min_four   -- for this text's walks alone
set_option linter.unusedVariables false
set_option linter.unusedSimpArgs false
attribute [local go_sem high] eqA32
mutual
def spec_InsOk.j0 : Nat → Int → Int → Bool → Int → Int → Int → Int → Int → Option (Bool)
  | 0, _, _, _, _, _, _, _, _ => none
  | k + 1, x1, x2, x29, x259000, x259001, x259002, x259003, x259004 => if x29 = true then (some false) else (if x259004 ≥ 0 then (spec_InsOk.j1 k x2 (decide (x259004 < x1)) x259000 x259001 x259002 x259003 x259004) else (spec_InsOk.j1 k x2 false x259000 x259001 x259002 x259003 x259004))
def spec_InsOk.j1 : Nat → Int → Bool → Int → Int → Int → Int → Int → Option (Bool)
  | 0, _, _, _, _, _, _, _ => none
  | k + 1, x2, x7, x259000, x259001, x259002, x259003, x259004 => (spec_l1In.f x259004 0 (wrap64 (x2 - 1))).bind fun t263 => (if x259000 = 1 then ((spec_l1In.f x259004 (-1000000000) 1000000000).bind fun t264 => (if t264 = true then (if x259002 = 0 then (some (x259003 == 0)) else (some false)) else (some false))) else (if x259000 = 2 then (spec_InsOk.j2 k x7 t263 x259000 (x259000 == 2) x259000 x259001 x259002 x259003 x259004) else (if x259000 = 3 then (spec_InsOk.j2 k x7 t263 x259000 (x259000 == 3) x259000 x259001 x259002 x259003 x259004) else (spec_InsOk.j2 k x7 t263 x259000 (x259000 == 4) x259000 x259001 x259002 x259003 x259004))))
def spec_InsOk.j2 : Nat → Bool → Bool → Int → Bool → Int → Int → Int → Int → Int → Option (Bool)
  | 0, _, _, _, _, _, _, _, _, _ => none
  | k + 1, x7, x8, x45, x61, x259000, x259001, x259002, x259003, x259004 => if x61 = true then (some (x259004 == 0)) else (if x45 = 5 then (if x8 = true then (if x259001 = 0 then (some (x259003 == 0)) else (some false)) else (some false)) else (if x45 = 6 then (spec_InsOk.j3 k x7 x8 x45 (x45 == 6) x259000 x259001 x259002 x259003 x259004) else (spec_InsOk.j3 k x7 x8 x45 (x45 == 8) x259000 x259001 x259002 x259003 x259004)))
def spec_InsOk.j3 : Nat → Bool → Bool → Int → Bool → Int → Int → Int → Int → Int → Option (Bool)
  | 0, _, _, _, _, _, _, _, _, _ => none
  | k + 1, x7, x8, x45, x81, x259000, x259001, x259002, x259003, x259004 => if x81 = true then (if x8 = true then (if x259002 = 0 then (some (x259001 != x259003)) else (some false)) else (some false)) else (if x45 = 7 then (if x8 = true then (some (x259003 == 0)) else (some false)) else (if x45 = 9 then (if x8 = true then (if x259001 = 0 then (if x259002 = 0 then (some (x259003 == 0)) else (some false)) else (some false)) else (some false)) else (if x45 = 10 then (if x259001 = 0 then (if x259003 = 0 then (some (x259004 == 0)) else (some false)) else (some false)) else (if x45 = 11 then (if x7 = true then (if x259001 = 0 then (if x259002 = 0 then (some (x259003 == 0)) else (some false)) else (some false)) else (some false)) else (if x45 = 12 then (if x7 = true then (if x259001 = 0 then (some (x259003 == 0)) else (some false)) else (some false)) else (if x45 = 13 then (some (x259000 == 13 && (x259001 == 0 && (x259002 == 0 && (x259003 == 0 && (x259004 == 0)))))) else (some false)))))))
end
def spec_InsOk.f (k : Nat) (a0_0 : Int) (a0_1 : Int) (a0_2 : Int) (a0_3 : Int) (a0_4 : Int) (a1 : Int) (a2 : Int) : Option (Bool) := (spec_l1In.f a0_1 0 3).bind fun t259 => (if t259 = true then ((spec_l1In.f a0_2 0 3).bind fun t260 => (if t260 = true then ((spec_l1In.f a0_3 0 3).bind fun t261 => (if t261 = true then ((spec_l1In.f a2 0 3).bind fun t262 => (spec_InsOk.j0 k a1 a2 (!t262) a0_0 a0_1 a0_2 a0_3 a0_4)) else (spec_InsOk.j0 k a1 a2 true a0_0 a0_1 a0_2 a0_3 a0_4))) else (spec_InsOk.j0 k a1 a2 true a0_0 a0_1 a0_2 a0_3 a0_4))) else (spec_InsOk.j0 k a1 a2 true a0_0 a0_1 a0_2 a0_3 a0_4))
set_option maxHeartbeats 8000000 in
set_option maxRecDepth 100000 in
theorem spec_InsOk.calls (k : Nat) (a0_0 : Int) (a0_1 : Int) (a0_2 : Int) (a0_3 : Int) (a0_4 : Int) (a1 : Int) (a2 : Int) (r : Bool) (w : World) (h : spec_InsOk.f k a0_0 a0_1 a0_2 a0_3 a0_4 a1 a2 = some r) :
  Calls Tryd.prog 67 #[.agg #[.int .i64 a0_0, .int .i64 a0_1, .int .i64 a0_2, .int .i64 a0_3, .int .i64 a0_4], .int .i64 a1, .int .i64 a2] w fun e w' => e = .returned (.bool r) ∧ Below w.heap.size w w' := by
 have hu32 := Tryd.underlying32
 have HB := aM_ (Below.refl w.heap.size w)
 have H : ((spec_l1In.f a0_1 0 3).bind fun t259 => (if t259 = true then ((spec_l1In.f a0_2 0 3).bind fun t260 => (if t260 = true then ((spec_l1In.f a0_3 0 3).bind fun t261 => (if t261 = true then ((spec_l1In.f a2 0 3).bind fun t262 => (spec_InsOk.j0 k a1 a2 (!t262) a0_0 a0_1 a0_2 a0_3 a0_4)) else (spec_InsOk.j0 k a1 a2 true a0_0 a0_1 a0_2 a0_3 a0_4))) else (spec_InsOk.j0 k a1 a2 true a0_0 a0_1 a0_2 a0_3 a0_4))) else (spec_InsOk.j0 k a1 a2 true a0_0 a0_1 a0_2 a0_3 a0_4))) = some r := h
 clear h
 have HC4 := aM_ H
 clear H
 go_enter Tryd.func67, Tryd.ntmps67
 go_upto_region 1 with (first | ((with_reducible refine gate_dst (N := 3) rfl ?_); refine box_event ?hg (N := 3) ?hd (cs := #[.int .i64 a0_0, .int .i64 a0_1, .int .i64 a0_2, .int .i64 a0_3, .int .i64 a0_4]) (t := 32) ?hr ?_; (case hd => rfl); (case hg => rfl); (case hr => first | (go_simp; done) | (go_simp; rfl)); intro gb258 hg w5 hbox hb; have n0 := aM_ (below_step (by repeat (first | (with_reducible first | exact HB.out | apply hA_ | apply hN_ | apply hD_) | exact HB.out)) hb); have n1 := aM_ (hbox); have n2 := aM_ ((by rw [hg]; exact (below_size (by repeat (first | (with_reducible first | exact HB.out | apply hA_ | apply hN_ | apply hD_) | exact HB.out))) : w.heap.size ≤ gb258)); have n3 := aM_ ((by rw [hg]; exact (below_size (by repeat (first | (with_reducible first | exact HB.out | apply hA_ | apply hN_ | apply hD_) | exact HB.out))) : w.heap.size ≤ gb258)); clear HB; have HB := n0; have BK258 := n1; have GW258 := n2; have GE258 := n3; clear n0 n1 n2 n3; clear hb hbox hg))
 (try simp only [Act.put, List.setIfInBounds_toArray, List.set_cons_zero, List.set_cons_succ])
 go_cut [29] (fun v29 wc => ∃ (kq : Nat) (x29_3 : Bool), v29 = .bool x29_3 ∧ Aside0 (spec_InsOk.j0 kq a1 a2 x29_3 a0_0 a0_1 a0_2 a0_3 a0_4 = some r) ∧ Aside0 (kq ≤ k) ∧ Aside0 (wc.heap[gb258]? = some (.cells #[.int .i64 a0_0, .int .i64 a0_1, .int .i64 a0_2, .int .i64 a0_3, .int .i64 a0_4] 32 (0, 0))) ∧ Aside0 (Below w.heap.size w wc))
 case first =>
  have H := HC4.out
  clear HC4
  replace H := Option.bind_eq_some_iff.mp H
  obtain ⟨t259, A60, H⟩ := H
  replace H : (if t259 = true then ((spec_l1In.f a0_2 0 3).bind fun t260 => (if t260 = true then ((spec_l1In.f a0_3 0 3).bind fun t261 => (if t261 = true then ((spec_l1In.f a2 0 3).bind fun t262 => (spec_InsOk.j0 k a1 a2 (!t262) a0_0 a0_1 a0_2 a0_3 a0_4)) else (spec_InsOk.j0 k a1 a2 true a0_0 a0_1 a0_2 a0_3 a0_4))) else (spec_InsOk.j0 k a1 a2 true a0_0 a0_1 a0_2 a0_3 a0_4))) else (spec_InsOk.j0 k a1 a2 true a0_0 a0_1 a0_2 a0_3 a0_4)) = some r := H
  have A6 := aM_ A60
  clear A60
  by_cases c7 : t259 = true
  ·subst c7
   have H1 : ((spec_l1In.f a0_2 0 3).bind fun t260 => (if t260 = true then ((spec_l1In.f a0_3 0 3).bind fun t261 => (if t261 = true then ((spec_l1In.f a2 0 3).bind fun t262 => (spec_InsOk.j0 k a1 a2 (!t262) a0_0 a0_1 a0_2 a0_3 a0_4)) else (spec_InsOk.j0 k a1 a2 true a0_0 a0_1 a0_2 a0_3 a0_4))) else (spec_InsOk.j0 k a1 a2 true a0_0 a0_1 a0_2 a0_3 a0_4))) = some r := by rw [if_pos rfl] at H; exact H
   clear H
   have H := H1
   clear H1
   replace H := Option.bind_eq_some_iff.mp H
   obtain ⟨t260, A80, H⟩ := H
   replace H : (if t260 = true then ((spec_l1In.f a0_3 0 3).bind fun t261 => (if t261 = true then ((spec_l1In.f a2 0 3).bind fun t262 => (spec_InsOk.j0 k a1 a2 (!t262) a0_0 a0_1 a0_2 a0_3 a0_4)) else (spec_InsOk.j0 k a1 a2 true a0_0 a0_1 a0_2 a0_3 a0_4))) else (spec_InsOk.j0 k a1 a2 true a0_0 a0_1 a0_2 a0_3 a0_4)) = some r := H
   have A8 := aM_ A80
   clear A80
   by_cases c9 : t260 = true
   ·subst c9
    have H1 : ((spec_l1In.f a0_3 0 3).bind fun t261 => (if t261 = true then ((spec_l1In.f a2 0 3).bind fun t262 => (spec_InsOk.j0 k a1 a2 (!t262) a0_0 a0_1 a0_2 a0_3 a0_4)) else (spec_InsOk.j0 k a1 a2 true a0_0 a0_1 a0_2 a0_3 a0_4))) = some r := by rw [if_pos rfl] at H; exact H
    clear H
    have H := H1
    clear H1
    replace H := Option.bind_eq_some_iff.mp H
    obtain ⟨t261, A100, H⟩ := H
    replace H : (if t261 = true then ((spec_l1In.f a2 0 3).bind fun t262 => (spec_InsOk.j0 k a1 a2 (!t262) a0_0 a0_1 a0_2 a0_3 a0_4)) else (spec_InsOk.j0 k a1 a2 true a0_0 a0_1 a0_2 a0_3 a0_4)) = some r := H
    have A10 := aM_ A100
    clear A100
    by_cases c11 : t261 = true
    ·subst c11
     have H1 : ((spec_l1In.f a2 0 3).bind fun t262 => (spec_InsOk.j0 k a1 a2 (!t262) a0_0 a0_1 a0_2 a0_3 a0_4)) = some r := by rw [if_pos rfl] at H; exact H
     clear H
     have H := H1
     clear H1
     replace H := Option.bind_eq_some_iff.mp H
     obtain ⟨t262, A120, H⟩ := H
     replace H : (spec_InsOk.j0 k a1 a2 (!t262) a0_0 a0_1 a0_2 a0_3 a0_4) = some r := H
     have A12 := aM_ A120
     clear A120
     have H' := aM_ H
     clear H
     have hcz13_0 : w5.cell? ⟨gb258, 0, none⟩ = some (.int .i64 a0_0) := (blk_cell BK258.out 0).trans rfl
     have hcz13_1 : w5.cell? ⟨gb258, 1, none⟩ = some (.int .i64 a0_1) := (blk_cell BK258.out 1).trans rfl
     have hcz13_2 : w5.cell? ⟨gb258, 2, none⟩ = some (.int .i64 a0_2) := (blk_cell BK258.out 2).trans rfl
     have hcz13_3 : w5.cell? ⟨gb258, 3, none⟩ = some (.int .i64 a0_3) := (blk_cell BK258.out 3).trans rfl
     have hcz13_4 : w5.cell? ⟨gb258, 4, none⟩ = some (.int .i64 a0_4) := (blk_cell BK258.out 4).trans rfl
     have hfz13_0 := blk_frozen BK258.out 0
     have hfz13_1 := blk_frozen BK258.out 1
     have hfz13_2 := blk_frozen BK258.out 2
     have hfz13_3 := blk_frozen BK258.out 3
     have hfz13_4 := blk_frozen BK258.out 4
     go_wp2_with (first | ((with_reducible refine gate_callee (f := 126) rfl ?_); refine goesL_ (some 11) rfl rfl Tryd.func126 (by kernel_rfl) rfl #[.int .i64 a0_1, .int .i64 0, .int .i64 3] rfl (by (try simp only [mT_, mC_, mN_]); first | done | rfl | (simp only [List.length_drop, List.length_take]; rfl)) ?_; (with_reducible refine (spec_l1In.calls a0_1 0 3 true _ A6.out).mono ?_); rintro e w' ⟨rfl, ⟨nd, rfl⟩⟩; refine ⟨_, rfl, ?_⟩) | (go_at_call 126; (with_reducible refine (spec_l1In.calls a0_2 0 3 true _ A8.out).mono ?_); rintro e w' ⟨rfl, ⟨nd, rfl⟩⟩) | (go_at_call 126; (with_reducible refine (spec_l1In.calls a0_3 0 3 true _ A10.out).mono ?_); rintro e w' ⟨rfl, ⟨nd, rfl⟩⟩) | (go_at_call 126; (with_reducible refine (spec_l1In.calls a2 0 3 t262 _ A12.out).mono ?_); rintro e w' ⟨rfl, ⟨nd, rfl⟩⟩))
     go_meet
     case rel => exact ⟨_, (!t262), (by first | rfl | (simp; done) | (simp [*]; done)), H', ⟨by first | omega | exact Nat.le_refl _⟩, ⟨by (with_reducible repeat (first | refine bN_ ?_ _ | refine bD_ ?_ | refine bA_ ?_ _)); exact BK258.out⟩, ⟨by repeat (first | (with_reducible first | exact HB.out | apply hA_ | apply hN_ | apply hD_ | refine below_set ?_ GE258.out) | exact HB.out)⟩⟩
    ·replace c11 := Bool.eq_false_iff.mpr c11
     subst c11
     have H1 : (spec_InsOk.j0 k a1 a2 true a0_0 a0_1 a0_2 a0_3 a0_4) = some r := by rw [if_neg (show ¬ (false = true) by decide)] at H; exact H
     clear H
     have H := H1
     clear H1
     have H' := aM_ H
     clear H
     have hcz14_0 : w5.cell? ⟨gb258, 0, none⟩ = some (.int .i64 a0_0) := (blk_cell BK258.out 0).trans rfl
     have hcz14_1 : w5.cell? ⟨gb258, 1, none⟩ = some (.int .i64 a0_1) := (blk_cell BK258.out 1).trans rfl
     have hcz14_2 : w5.cell? ⟨gb258, 2, none⟩ = some (.int .i64 a0_2) := (blk_cell BK258.out 2).trans rfl
     have hcz14_3 : w5.cell? ⟨gb258, 3, none⟩ = some (.int .i64 a0_3) := (blk_cell BK258.out 3).trans rfl
     have hcz14_4 : w5.cell? ⟨gb258, 4, none⟩ = some (.int .i64 a0_4) := (blk_cell BK258.out 4).trans rfl
     have hfz14_0 := blk_frozen BK258.out 0
     have hfz14_1 := blk_frozen BK258.out 1
     have hfz14_2 := blk_frozen BK258.out 2
     have hfz14_3 := blk_frozen BK258.out 3
     have hfz14_4 := blk_frozen BK258.out 4
     go_wp2_with (first | ((with_reducible refine gate_callee (f := 126) rfl ?_); refine goesL_ (some 11) rfl rfl Tryd.func126 (by kernel_rfl) rfl #[.int .i64 a0_1, .int .i64 0, .int .i64 3] rfl (by (try simp only [mT_, mC_, mN_]); first | done | rfl | (simp only [List.length_drop, List.length_take]; rfl)) ?_; (with_reducible refine (spec_l1In.calls a0_1 0 3 true _ A6.out).mono ?_); rintro e w' ⟨rfl, ⟨nd, rfl⟩⟩; refine ⟨_, rfl, ?_⟩) | (go_at_call 126; (with_reducible refine (spec_l1In.calls a0_2 0 3 true _ A8.out).mono ?_); rintro e w' ⟨rfl, ⟨nd, rfl⟩⟩) | (go_at_call 126; (with_reducible refine (spec_l1In.calls a0_3 0 3 false _ A10.out).mono ?_); rintro e w' ⟨rfl, ⟨nd, rfl⟩⟩))
     go_meet
     case rel => exact ⟨_, (true), (by first | rfl | (simp; done) | (simp [*]; done)), H', ⟨by first | omega | exact Nat.le_refl _⟩, ⟨by (with_reducible repeat (first | refine bN_ ?_ _ | refine bD_ ?_ | refine bA_ ?_ _)); exact BK258.out⟩, ⟨by repeat (first | (with_reducible first | exact HB.out | apply hA_ | apply hN_ | apply hD_ | refine below_set ?_ GE258.out) | exact HB.out)⟩⟩
   ·replace c9 := Bool.eq_false_iff.mpr c9
    subst c9
    have H1 : (spec_InsOk.j0 k a1 a2 true a0_0 a0_1 a0_2 a0_3 a0_4) = some r := by rw [if_neg (show ¬ (false = true) by decide)] at H; exact H
    clear H
    have H := H1
    clear H1
    have H' := aM_ H
    clear H
    have hcz15_0 : w5.cell? ⟨gb258, 0, none⟩ = some (.int .i64 a0_0) := (blk_cell BK258.out 0).trans rfl
    have hcz15_1 : w5.cell? ⟨gb258, 1, none⟩ = some (.int .i64 a0_1) := (blk_cell BK258.out 1).trans rfl
    have hcz15_2 : w5.cell? ⟨gb258, 2, none⟩ = some (.int .i64 a0_2) := (blk_cell BK258.out 2).trans rfl
    have hcz15_3 : w5.cell? ⟨gb258, 3, none⟩ = some (.int .i64 a0_3) := (blk_cell BK258.out 3).trans rfl
    have hcz15_4 : w5.cell? ⟨gb258, 4, none⟩ = some (.int .i64 a0_4) := (blk_cell BK258.out 4).trans rfl
    have hfz15_0 := blk_frozen BK258.out 0
    have hfz15_1 := blk_frozen BK258.out 1
    have hfz15_2 := blk_frozen BK258.out 2
    have hfz15_3 := blk_frozen BK258.out 3
    have hfz15_4 := blk_frozen BK258.out 4
    go_wp2_with (first | ((with_reducible refine gate_callee (f := 126) rfl ?_); refine goesL_ (some 11) rfl rfl Tryd.func126 (by kernel_rfl) rfl #[.int .i64 a0_1, .int .i64 0, .int .i64 3] rfl (by (try simp only [mT_, mC_, mN_]); first | done | rfl | (simp only [List.length_drop, List.length_take]; rfl)) ?_; (with_reducible refine (spec_l1In.calls a0_1 0 3 true _ A6.out).mono ?_); rintro e w' ⟨rfl, ⟨nd, rfl⟩⟩; refine ⟨_, rfl, ?_⟩) | (go_at_call 126; (with_reducible refine (spec_l1In.calls a0_2 0 3 false _ A8.out).mono ?_); rintro e w' ⟨rfl, ⟨nd, rfl⟩⟩))
    go_meet
    case rel => exact ⟨_, (true), (by first | rfl | (simp; done) | (simp [*]; done)), H', ⟨by first | omega | exact Nat.le_refl _⟩, ⟨by (with_reducible repeat (first | refine bN_ ?_ _ | refine bD_ ?_ | refine bA_ ?_ _)); exact BK258.out⟩, ⟨by repeat (first | (with_reducible first | exact HB.out | apply hA_ | apply hN_ | apply hD_ | refine below_set ?_ GE258.out) | exact HB.out)⟩⟩
  ·replace c7 := Bool.eq_false_iff.mpr c7
   subst c7
   have H1 : (spec_InsOk.j0 k a1 a2 true a0_0 a0_1 a0_2 a0_3 a0_4) = some r := by rw [if_neg (show ¬ (false = true) by decide)] at H; exact H
   clear H
   have H := H1
   clear H1
   have H' := aM_ H
   clear H
   have hcz16_0 : w5.cell? ⟨gb258, 0, none⟩ = some (.int .i64 a0_0) := (blk_cell BK258.out 0).trans rfl
   have hcz16_1 : w5.cell? ⟨gb258, 1, none⟩ = some (.int .i64 a0_1) := (blk_cell BK258.out 1).trans rfl
   have hcz16_2 : w5.cell? ⟨gb258, 2, none⟩ = some (.int .i64 a0_2) := (blk_cell BK258.out 2).trans rfl
   have hcz16_3 : w5.cell? ⟨gb258, 3, none⟩ = some (.int .i64 a0_3) := (blk_cell BK258.out 3).trans rfl
   have hcz16_4 : w5.cell? ⟨gb258, 4, none⟩ = some (.int .i64 a0_4) := (blk_cell BK258.out 4).trans rfl
   have hfz16_0 := blk_frozen BK258.out 0
   have hfz16_1 := blk_frozen BK258.out 1
   have hfz16_2 := blk_frozen BK258.out 2
   have hfz16_3 := blk_frozen BK258.out 3
   have hfz16_4 := blk_frozen BK258.out 4
   go_wp2_with (first | ((with_reducible refine gate_callee (f := 126) rfl ?_); refine goesL_ (some 11) rfl rfl Tryd.func126 (by kernel_rfl) rfl #[.int .i64 a0_1, .int .i64 0, .int .i64 3] rfl (by (try simp only [mT_, mC_, mN_]); first | done | rfl | (simp only [List.length_drop, List.length_take]; rfl)) ?_; (with_reducible refine (spec_l1In.calls a0_1 0 3 false _ A6.out).mono ?_); rintro e w' ⟨rfl, ⟨nd, rfl⟩⟩; refine ⟨_, rfl, ?_⟩))
   go_meet
   case rel => exact ⟨_, (true), (by first | rfl | (simp; done) | (simp [*]; done)), H', ⟨by first | omega | exact Nat.le_refl _⟩, ⟨by (with_reducible repeat (first | refine bN_ ?_ _ | refine bD_ ?_ | refine bA_ ?_ _)); exact BK258.out⟩, ⟨by repeat (first | (with_reducible first | exact HB.out | apply hA_ | apply hN_ | apply hD_ | refine below_set ?_ GE258.out) | exact HB.out)⟩⟩
 case rest =>
  clear HC4
  try clear c1
  try clear p2
  try clear c6
  try clear c7
  try clear c9
  try clear c11
  try clear c12
  try clear hcz13_0
  try clear hcz13_1
  try clear hcz13_2
  try clear hcz13_3
  try clear hcz13_4
  try clear hcz14_0
  try clear hcz14_1
  try clear hcz14_2
  try clear hcz14_3
  try clear hcz14_4
  try clear hcz15_0
  try clear hcz15_1
  try clear hcz15_2
  try clear hcz15_3
  try clear hcz15_4
  try clear hcz16_0
  try clear hcz16_1
  try clear hcz16_2
  try clear hcz16_3
  try clear hcz16_4
  try clear hfz13_0
  try clear hfz13_1
  try clear hfz13_2
  try clear hfz13_3
  try clear hfz13_4
  try clear hfz14_0
  try clear hfz14_1
  try clear hfz14_2
  try clear hfz14_3
  try clear hfz14_4
  try clear hfz15_0
  try clear hfz15_1
  try clear hfz15_2
  try clear hfz15_3
  try clear hfz15_4
  try clear hfz16_0
  try clear hfz16_1
  try clear hfz16_2
  try clear hfz16_3
  try clear hfz16_4
  obtain ⟨kq, x29_3, rfl, HA, HJ3, BK258, HB⟩ := hcut
  cases kq with
  | zero => exact absurd HA.out (by simp [spec_InsOk.j0])
  | succ kj3 =>
   have H := HA.out
   clear HA
   simp only [spec_InsOk.j0] at H
   by_cases c17 : x29_3 = true
   ·subst c17
    have H1 : (some false) = some r := by rw [if_pos rfl] at H; exact H
    clear H
    have H := H1
    clear H1
    obtain rfl := Option.some.inj H
    go_wp2
    go_ret
    exact ⟨by first | rfl | (simp [errW_none, errW_some] <;> rfl) | (simp [*, errW_none, errW_some] <;> rfl), by repeat (first | (with_reducible first | exact HB.out | apply hA_ | apply hN_ | apply hD_ | refine below_set ?_ GE258.out) | exact HB.out)⟩
   ·replace c17 := Bool.eq_false_iff.mpr c17
    subst c17
    have H1 : (if a0_4 ≥ 0 then (spec_InsOk.j1 kj3 a2 (decide (a0_4 < a1)) a0_0 a0_1 a0_2 a0_3 a0_4) else (spec_InsOk.j1 kj3 a2 false a0_0 a0_1 a0_2 a0_3 a0_4)) = some r := by rw [if_neg (show ¬ (false = true) by decide)] at H; exact H
    clear H
    have H := H1
    clear H1
    have HC18 := aM_ H
    clear H
    go_upto_region 3 with (fail)
    go_cut [7] (fun v7 wc => ∃ (kq : Nat) (x7_17 : Bool), v7 = .bool x7_17 ∧ Aside0 (spec_InsOk.j1 kq a2 x7_17 a0_0 a0_1 a0_2 a0_3 a0_4 = some r) ∧ Aside0 (kq ≤ kj3) ∧ Aside0 (wc.heap[gb258]? = some (.cells #[.int .i64 a0_0, .int .i64 a0_1, .int .i64 a0_2, .int .i64 a0_3, .int .i64 a0_4] 32 (0, 0))) ∧ Aside0 (Below w.heap.size w wc))
    case first =>
     have H := HC18.out
     clear HC18
     by_cases c19 : a0_4 ≥ 0
     ·rw [if_pos c19] at H
      have c19b0 : decide (0 ≤ a0_4) = true := decide_eq_true c19
      clear c19
      (first | rw [c19b0] | (simp only [i64_w, i32_w]; rw [c19b0]) | skip)
      have H' := aM_ H
      clear H
      have hcz20_0 : wc.cell? ⟨gb258, 0, none⟩ = some (.int .i64 a0_0) := (blk_cell BK258.out 0).trans rfl
      have hcz20_1 : wc.cell? ⟨gb258, 1, none⟩ = some (.int .i64 a0_1) := (blk_cell BK258.out 1).trans rfl
      have hcz20_2 : wc.cell? ⟨gb258, 2, none⟩ = some (.int .i64 a0_2) := (blk_cell BK258.out 2).trans rfl
      have hcz20_3 : wc.cell? ⟨gb258, 3, none⟩ = some (.int .i64 a0_3) := (blk_cell BK258.out 3).trans rfl
      have hcz20_4 : wc.cell? ⟨gb258, 4, none⟩ = some (.int .i64 a0_4) := (blk_cell BK258.out 4).trans rfl
      have hfz20_0 := blk_frozen BK258.out 0
      have hfz20_1 := blk_frozen BK258.out 1
      have hfz20_2 := blk_frozen BK258.out 2
      have hfz20_3 := blk_frozen BK258.out 3
      have hfz20_4 := blk_frozen BK258.out 4
      go_wp2
      go_meet
      case rel => exact ⟨_, (decide (a0_4 < a1)), (by first | rfl | (simp; done) | (simp [*]; done)), H', ⟨by have := HJ3.out; first | omega | exact Nat.le_refl _⟩, ⟨by (with_reducible repeat (first | refine bN_ ?_ _ | refine bD_ ?_ | refine bA_ ?_ _)); exact BK258.out⟩, ⟨by repeat (first | (with_reducible first | exact HB.out | apply hA_ | apply hN_ | apply hD_ | refine below_set ?_ GE258.out) | exact HB.out)⟩⟩
     ·rw [if_neg c19] at H
      have c19b0 : decide (0 ≤ a0_4) = false := decide_eq_false c19
      clear c19
      (first | rw [c19b0] | (simp only [i64_w, i32_w]; rw [c19b0]) | skip)
      have H' := aM_ H
      clear H
      have hcz21_0 : wc.cell? ⟨gb258, 0, none⟩ = some (.int .i64 a0_0) := (blk_cell BK258.out 0).trans rfl
      have hcz21_1 : wc.cell? ⟨gb258, 1, none⟩ = some (.int .i64 a0_1) := (blk_cell BK258.out 1).trans rfl
      have hcz21_2 : wc.cell? ⟨gb258, 2, none⟩ = some (.int .i64 a0_2) := (blk_cell BK258.out 2).trans rfl
      have hcz21_3 : wc.cell? ⟨gb258, 3, none⟩ = some (.int .i64 a0_3) := (blk_cell BK258.out 3).trans rfl
      have hcz21_4 : wc.cell? ⟨gb258, 4, none⟩ = some (.int .i64 a0_4) := (blk_cell BK258.out 4).trans rfl
      have hfz21_0 := blk_frozen BK258.out 0
      have hfz21_1 := blk_frozen BK258.out 1
      have hfz21_2 := blk_frozen BK258.out 2
      have hfz21_3 := blk_frozen BK258.out 3
      have hfz21_4 := blk_frozen BK258.out 4
      go_wp2
      go_meet
      case rel => exact ⟨_, (false), (by first | rfl | (simp; done) | (simp [*]; done)), H', ⟨by have := HJ3.out; first | omega | exact Nat.le_refl _⟩, ⟨by (with_reducible repeat (first | refine bN_ ?_ _ | refine bD_ ?_ | refine bA_ ?_ _)); exact BK258.out⟩, ⟨by repeat (first | (with_reducible first | exact HB.out | apply hA_ | apply hN_ | apply hD_ | refine below_set ?_ GE258.out) | exact HB.out)⟩⟩
    case rest =>
     clear HC18
     try clear c1
     try clear p2
     try clear c6
     try clear c7
     try clear c9
     try clear c11
     try clear c12
     try clear c17
     try clear c19
     try clear c19b0
     try clear hcz13_0
     try clear hcz13_1
     try clear hcz13_2
     try clear hcz13_3
     try clear hcz13_4
     try clear hcz14_0
     try clear hcz14_1
     try clear hcz14_2
     try clear hcz14_3
     try clear hcz14_4
     try clear hcz15_0
     try clear hcz15_1
     try clear hcz15_2
     try clear hcz15_3
     try clear hcz15_4
     try clear hcz16_0
     try clear hcz16_1
     try clear hcz16_2
     try clear hcz16_3
     try clear hcz16_4
     try clear hcz20_0
     try clear hcz20_1
     try clear hcz20_2
     try clear hcz20_3
     try clear hcz20_4
     try clear hcz21_0
     try clear hcz21_1
     try clear hcz21_2
     try clear hcz21_3
     try clear hcz21_4
     try clear hfz13_0
     try clear hfz13_1
     try clear hfz13_2
     try clear hfz13_3
     try clear hfz13_4
     try clear hfz14_0
     try clear hfz14_1
     try clear hfz14_2
     try clear hfz14_3
     try clear hfz14_4
     try clear hfz15_0
     try clear hfz15_1
     try clear hfz15_2
     try clear hfz15_3
     try clear hfz15_4
     try clear hfz16_0
     try clear hfz16_1
     try clear hfz16_2
     try clear hfz16_3
     try clear hfz16_4
     try clear hfz20_0
     try clear hfz20_1
     try clear hfz20_2
     try clear hfz20_3
     try clear hfz20_4
     try clear hfz21_0
     try clear hfz21_1
     try clear hfz21_2
     try clear hfz21_3
     try clear hfz21_4
     try clear p2
     obtain ⟨kq, x7_17, rfl, HA, HJ17, BK258, HB⟩ := hcut
     cases kq with
     | zero => exact absurd HA.out (by simp [spec_InsOk.j1])
     | succ kj17 =>
      have H := HA.out
      clear HA
      simp only [spec_InsOk.j1] at H
      replace H := Option.bind_eq_some_iff.mp H
      obtain ⟨t263, A220, H⟩ := H
      replace H : (if a0_0 = 1 then ((spec_l1In.f a0_4 (-1000000000) 1000000000).bind fun t264 => (if t264 = true then (if a0_2 = 0 then (some (a0_3 == 0)) else (some false)) else (some false))) else (if a0_0 = 2 then (spec_InsOk.j2 kj17 x7_17 t263 a0_0 (a0_0 == 2) a0_0 a0_1 a0_2 a0_3 a0_4) else (if a0_0 = 3 then (spec_InsOk.j2 kj17 x7_17 t263 a0_0 (a0_0 == 3) a0_0 a0_1 a0_2 a0_3 a0_4) else (spec_InsOk.j2 kj17 x7_17 t263 a0_0 (a0_0 == 4) a0_0 a0_1 a0_2 a0_3 a0_4)))) = some r := H
      have A22 := aM_ A220
      clear A220
      by_cases c23 : a0_0 = 1
      ·rw [if_pos c23] at H
       have c23b0 : (a0_0 == 1) = true := beq_iff_eq.mpr c23
       have c23b1 : (a0_0 != 1) = false := bne_eq_false_iff_eq.mpr c23
       clear c23
       replace H := Option.bind_eq_some_iff.mp H
       obtain ⟨t264, A240, H⟩ := H
       replace H : (if t264 = true then (if a0_2 = 0 then (some (a0_3 == 0)) else (some false)) else (some false)) = some r := H
       have A24 := aM_ A240
       clear A240
       by_cases c25 : t264 = true
       ·subst c25
        have H1 : (if a0_2 = 0 then (some (a0_3 == 0)) else (some false)) = some r := by rw [if_pos rfl] at H; exact H
        clear H
        have H := H1
        clear H1
        by_cases c26 : a0_2 = 0
        ·rw [if_pos c26] at H
         have c26b0 : (a0_2 == 0) = true := beq_iff_eq.mpr c26
         have c26b1 : (a0_2 != 0) = false := bne_eq_false_iff_eq.mpr c26
         clear c26
         obtain rfl := Option.some.inj H
         have hcz27_0 : wc.cell? ⟨gb258, 0, none⟩ = some (.int .i64 a0_0) := (blk_cell BK258.out 0).trans rfl
         have hcz27_1 : wc.cell? ⟨gb258, 1, none⟩ = some (.int .i64 a0_1) := (blk_cell BK258.out 1).trans rfl
         have hcz27_2 : wc.cell? ⟨gb258, 2, none⟩ = some (.int .i64 a0_2) := (blk_cell BK258.out 2).trans rfl
         have hcz27_3 : wc.cell? ⟨gb258, 3, none⟩ = some (.int .i64 a0_3) := (blk_cell BK258.out 3).trans rfl
         have hcz27_4 : wc.cell? ⟨gb258, 4, none⟩ = some (.int .i64 a0_4) := (blk_cell BK258.out 4).trans rfl
         have hfz27_0 := blk_frozen BK258.out 0
         have hfz27_1 := blk_frozen BK258.out 1
         have hfz27_2 := blk_frozen BK258.out 2
         have hfz27_3 := blk_frozen BK258.out 3
         have hfz27_4 := blk_frozen BK258.out 4
         go_wp2_with (first | ((with_reducible refine gate_callee (f := 126) rfl ?_); refine goesL_ (some 43) rfl rfl Tryd.func126 (by kernel_rfl) rfl #[.int .i64 a0_4, .int .i64 0, .int .i64 (wrap64 (a2 - 1))] rfl (by (try simp only [mT_, mC_, mN_]); first | done | rfl | (simp only [List.length_drop, List.length_take]; rfl)) ?_; (with_reducible refine (spec_l1In.calls a0_4 0 (wrap64 (a2 - 1)) t263 _ A22.out).mono ?_); rintro e w' ⟨rfl, ⟨nd, rfl⟩⟩; refine ⟨_, rfl, ?_⟩) | ((with_reducible refine gate_callee (f := 126) rfl ?_); refine goesL_ (some 50) rfl rfl Tryd.func126 (by kernel_rfl) rfl #[.int .i64 a0_4, .int .i64 (-1000000000), .int .i64 1000000000] rfl (by (try simp only [mT_, mC_, mN_]); first | done | rfl | (simp only [List.length_drop, List.length_take]; rfl)) ?_; (with_reducible refine (spec_l1In.calls a0_4 (-1000000000) 1000000000 true _ A24.out).mono ?_); rintro e w' ⟨rfl, ⟨nd, rfl⟩⟩; refine ⟨_, rfl, ?_⟩))
         go_ret
         exact ⟨by first | rfl | (simp [errW_none, errW_some] <;> rfl) | (simp [*, errW_none, errW_some] <;> rfl), by repeat (first | (with_reducible first | exact HB.out | apply hA_ | apply hN_ | apply hD_ | refine below_set ?_ GE258.out) | exact HB.out)⟩
        ·rw [if_neg c26] at H
         have c26b0 : (a0_2 == 0) = false := beq_eq_false_iff_ne.mpr c26
         have c26b1 : (a0_2 != 0) = true := bne_iff_ne.mpr c26
         obtain rfl := Option.some.inj H
         have hcz28_0 : wc.cell? ⟨gb258, 0, none⟩ = some (.int .i64 a0_0) := (blk_cell BK258.out 0).trans rfl
         have hcz28_1 : wc.cell? ⟨gb258, 1, none⟩ = some (.int .i64 a0_1) := (blk_cell BK258.out 1).trans rfl
         have hcz28_2 : wc.cell? ⟨gb258, 2, none⟩ = some (.int .i64 a0_2) := (blk_cell BK258.out 2).trans rfl
         have hcz28_3 : wc.cell? ⟨gb258, 3, none⟩ = some (.int .i64 a0_3) := (blk_cell BK258.out 3).trans rfl
         have hcz28_4 : wc.cell? ⟨gb258, 4, none⟩ = some (.int .i64 a0_4) := (blk_cell BK258.out 4).trans rfl
         have hfz28_0 := blk_frozen BK258.out 0
         have hfz28_1 := blk_frozen BK258.out 1
         have hfz28_2 := blk_frozen BK258.out 2
         have hfz28_3 := blk_frozen BK258.out 3
         have hfz28_4 := blk_frozen BK258.out 4
         go_wp2_with (first | ((with_reducible refine gate_callee (f := 126) rfl ?_); refine goesL_ (some 43) rfl rfl Tryd.func126 (by kernel_rfl) rfl #[.int .i64 a0_4, .int .i64 0, .int .i64 (wrap64 (a2 - 1))] rfl (by (try simp only [mT_, mC_, mN_]); first | done | rfl | (simp only [List.length_drop, List.length_take]; rfl)) ?_; (with_reducible refine (spec_l1In.calls a0_4 0 (wrap64 (a2 - 1)) t263 _ A22.out).mono ?_); rintro e w' ⟨rfl, ⟨nd, rfl⟩⟩; refine ⟨_, rfl, ?_⟩) | ((with_reducible refine gate_callee (f := 126) rfl ?_); refine goesL_ (some 50) rfl rfl Tryd.func126 (by kernel_rfl) rfl #[.int .i64 a0_4, .int .i64 (-1000000000), .int .i64 1000000000] rfl (by (try simp only [mT_, mC_, mN_]); first | done | rfl | (simp only [List.length_drop, List.length_take]; rfl)) ?_; (with_reducible refine (spec_l1In.calls a0_4 (-1000000000) 1000000000 true _ A24.out).mono ?_); rintro e w' ⟨rfl, ⟨nd, rfl⟩⟩; refine ⟨_, rfl, ?_⟩))
         go_ret
         exact ⟨by first | rfl | (simp [errW_none, errW_some] <;> rfl) | (simp [*, errW_none, errW_some] <;> rfl), by repeat (first | (with_reducible first | exact HB.out | apply hA_ | apply hN_ | apply hD_ | refine below_set ?_ GE258.out) | exact HB.out)⟩
       ·replace c25 := Bool.eq_false_iff.mpr c25
        subst c25
        have H1 : (some false) = some r := by rw [if_neg (show ¬ (false = true) by decide)] at H; exact H
        clear H
        have H := H1
        clear H1
        obtain rfl := Option.some.inj H
        have hcz29_0 : wc.cell? ⟨gb258, 0, none⟩ = some (.int .i64 a0_0) := (blk_cell BK258.out 0).trans rfl
        have hcz29_1 : wc.cell? ⟨gb258, 1, none⟩ = some (.int .i64 a0_1) := (blk_cell BK258.out 1).trans rfl
        have hcz29_2 : wc.cell? ⟨gb258, 2, none⟩ = some (.int .i64 a0_2) := (blk_cell BK258.out 2).trans rfl
        have hcz29_3 : wc.cell? ⟨gb258, 3, none⟩ = some (.int .i64 a0_3) := (blk_cell BK258.out 3).trans rfl
        have hcz29_4 : wc.cell? ⟨gb258, 4, none⟩ = some (.int .i64 a0_4) := (blk_cell BK258.out 4).trans rfl
        have hfz29_0 := blk_frozen BK258.out 0
        have hfz29_1 := blk_frozen BK258.out 1
        have hfz29_2 := blk_frozen BK258.out 2
        have hfz29_3 := blk_frozen BK258.out 3
        have hfz29_4 := blk_frozen BK258.out 4
        go_wp2_with (first | ((with_reducible refine gate_callee (f := 126) rfl ?_); refine goesL_ (some 43) rfl rfl Tryd.func126 (by kernel_rfl) rfl #[.int .i64 a0_4, .int .i64 0, .int .i64 (wrap64 (a2 - 1))] rfl (by (try simp only [mT_, mC_, mN_]); first | done | rfl | (simp only [List.length_drop, List.length_take]; rfl)) ?_; (with_reducible refine (spec_l1In.calls a0_4 0 (wrap64 (a2 - 1)) t263 _ A22.out).mono ?_); rintro e w' ⟨rfl, ⟨nd, rfl⟩⟩; refine ⟨_, rfl, ?_⟩) | ((with_reducible refine gate_callee (f := 126) rfl ?_); refine goesL_ (some 50) rfl rfl Tryd.func126 (by kernel_rfl) rfl #[.int .i64 a0_4, .int .i64 (-1000000000), .int .i64 1000000000] rfl (by (try simp only [mT_, mC_, mN_]); first | done | rfl | (simp only [List.length_drop, List.length_take]; rfl)) ?_; (with_reducible refine (spec_l1In.calls a0_4 (-1000000000) 1000000000 false _ A24.out).mono ?_); rintro e w' ⟨rfl, ⟨nd, rfl⟩⟩; refine ⟨_, rfl, ?_⟩))
        go_ret
        exact ⟨by first | rfl | (simp [errW_none, errW_some] <;> rfl) | (simp [*, errW_none, errW_some] <;> rfl), by repeat (first | (with_reducible first | exact HB.out | apply hA_ | apply hN_ | apply hD_ | refine below_set ?_ GE258.out) | exact HB.out)⟩
      ·rw [if_neg c23] at H
       have c23b0 : (a0_0 == 1) = false := beq_eq_false_iff_ne.mpr c23
       have c23b1 : (a0_0 != 1) = true := bne_iff_ne.mpr c23
       have HC30 := aM_ H
       clear H
       have hcz31_0 : wc.cell? ⟨gb258, 0, none⟩ = some (.int .i64 a0_0) := (blk_cell BK258.out 0).trans rfl
       have hcz31_1 : wc.cell? ⟨gb258, 1, none⟩ = some (.int .i64 a0_1) := (blk_cell BK258.out 1).trans rfl
       have hcz31_2 : wc.cell? ⟨gb258, 2, none⟩ = some (.int .i64 a0_2) := (blk_cell BK258.out 2).trans rfl
       have hcz31_3 : wc.cell? ⟨gb258, 3, none⟩ = some (.int .i64 a0_3) := (blk_cell BK258.out 3).trans rfl
       have hcz31_4 : wc.cell? ⟨gb258, 4, none⟩ = some (.int .i64 a0_4) := (blk_cell BK258.out 4).trans rfl
       have hfz31_0 := blk_frozen BK258.out 0
       have hfz31_1 := blk_frozen BK258.out 1
       have hfz31_2 := blk_frozen BK258.out 2
       have hfz31_3 := blk_frozen BK258.out 3
       have hfz31_4 := blk_frozen BK258.out 4
       go_upto_if 61 with (first | ((with_reducible refine gate_callee (f := 126) rfl ?_); refine goesL_ (some 43) rfl rfl Tryd.func126 (by kernel_rfl) rfl #[.int .i64 a0_4, .int .i64 0, .int .i64 (wrap64 (a2 - 1))] rfl (by (try simp only [mT_, mC_, mN_]); first | done | rfl | (simp only [List.length_drop, List.length_take]; rfl)) ?_; (with_reducible refine (spec_l1In.calls a0_4 0 (wrap64 (a2 - 1)) t263 _ A22.out).mono ?_); rintro e w' ⟨rfl, ⟨nd, rfl⟩⟩; refine ⟨_, rfl, ?_⟩))
       (try simp only [Act.put, List.setIfInBounds_toArray, List.set_cons_zero, List.set_cons_succ])
       go_cut [61] (fun v61 wc => ∃ (kq : Nat) (x61_29 : Bool), v61 = .bool x61_29 ∧ Aside0 (spec_InsOk.j2 kq x7_17 t263 a0_0 x61_29 a0_0 a0_1 a0_2 a0_3 a0_4 = some r) ∧ Aside0 (kq ≤ kj17) ∧ Aside0 (wc.heap[gb258]? = some (.cells #[.int .i64 a0_0, .int .i64 a0_1, .int .i64 a0_2, .int .i64 a0_3, .int .i64 a0_4] 32 (0, 0))) ∧ Aside0 (Below w.heap.size w wc))
       case first =>
        have H := HC30.out
        clear HC30
        by_cases c32 : a0_0 = 2
        ·rw [if_pos c32] at H
         have c32b0 : (a0_0 == 2) = true := beq_iff_eq.mpr c32
         have c32b1 : (a0_0 != 2) = false := bne_eq_false_iff_eq.mpr c32
         clear c32
         (first | rw [c32b0] | (simp only [i64_w, i32_w]; rw [c32b0]) | skip)
         have H' := aM_ H
         clear H
         go_wp2
         go_meet
         case rel => exact ⟨_, ((a0_0 == 2)), (by first | rfl | (simp; done) | (simp [*]; done)), H', ⟨by have := HJ3.out; have := HJ17.out; first | omega | exact Nat.le_refl _⟩, ⟨by (with_reducible repeat (first | refine bN_ ?_ _ | refine bD_ ?_ | refine bA_ ?_ _)); exact BK258.out⟩, ⟨by repeat (first | (with_reducible first | exact HB.out | apply hA_ | apply hN_ | apply hD_ | refine below_set ?_ GE258.out) | exact HB.out)⟩⟩
        ·rw [if_neg c32] at H
         have c32b0 : (a0_0 == 2) = false := beq_eq_false_iff_ne.mpr c32
         have c32b1 : (a0_0 != 2) = true := bne_iff_ne.mpr c32
         (first | rw [c32b0] | (simp only [i64_w, i32_w]; rw [c32b0]) | skip)
         by_cases c33 : a0_0 = 3
         ·rw [if_pos c33] at H
          have c33b0 : (a0_0 == 3) = true := beq_iff_eq.mpr c33
          have c33b1 : (a0_0 != 3) = false := bne_eq_false_iff_eq.mpr c33
          clear c33
          have H' := aM_ H
          clear H
          go_wp2
          go_meet
          case rel => exact ⟨_, ((a0_0 == 3)), (by first | rfl | (simp; done) | (simp [*]; done)), H', ⟨by have := HJ3.out; have := HJ17.out; first | omega | exact Nat.le_refl _⟩, ⟨by (with_reducible repeat (first | refine bN_ ?_ _ | refine bD_ ?_ | refine bA_ ?_ _)); exact BK258.out⟩, ⟨by repeat (first | (with_reducible first | exact HB.out | apply hA_ | apply hN_ | apply hD_ | refine below_set ?_ GE258.out) | exact HB.out)⟩⟩
         ·rw [if_neg c33] at H
          have c33b0 : (a0_0 == 3) = false := beq_eq_false_iff_ne.mpr c33
          have c33b1 : (a0_0 != 3) = true := bne_iff_ne.mpr c33
          have H' := aM_ H
          clear H
          go_wp2
          go_meet
          case rel => exact ⟨_, ((a0_0 == 4)), (by first | rfl | (simp; done) | (simp [*]; done)), H', ⟨by have := HJ3.out; have := HJ17.out; first | omega | exact Nat.le_refl _⟩, ⟨by (with_reducible repeat (first | refine bN_ ?_ _ | refine bD_ ?_ | refine bA_ ?_ _)); exact BK258.out⟩, ⟨by repeat (first | (with_reducible first | exact HB.out | apply hA_ | apply hN_ | apply hD_ | refine below_set ?_ GE258.out) | exact HB.out)⟩⟩
       case rest =>
        clear HC30
        try clear c1
        try clear c2
        try clear p2
        try clear c3
        try clear c6
        try clear p6
        try clear c7
        try clear c9
        try clear c11
        try clear c12
        try clear c17
        try clear c19
        try clear c19b0
        try clear c23
        try clear c23b0
        try clear c23b1
        try clear c25
        try clear c26
        try clear c26b0
        try clear c26b1
        try clear c32
        try clear c32b0
        try clear c32b1
        try clear c33
        try clear c33b0
        try clear c33b1
        try clear hcz13_0
        try clear hcz13_1
        try clear hcz13_2
        try clear hcz13_3
        try clear hcz13_4
        try clear hcz14_0
        try clear hcz14_1
        try clear hcz14_2
        try clear hcz14_3
        try clear hcz14_4
        try clear hcz15_0
        try clear hcz15_1
        try clear hcz15_2
        try clear hcz15_3
        try clear hcz15_4
        try clear hcz16_0
        try clear hcz16_1
        try clear hcz16_2
        try clear hcz16_3
        try clear hcz16_4
        try clear hcz20_0
        try clear hcz20_1
        try clear hcz20_2
        try clear hcz20_3
        try clear hcz20_4
        try clear hcz21_0
        try clear hcz21_1
        try clear hcz21_2
        try clear hcz21_3
        try clear hcz21_4
        try clear hcz27_0
        try clear hcz27_1
        try clear hcz27_2
        try clear hcz27_3
        try clear hcz27_4
        try clear hcz28_0
        try clear hcz28_1
        try clear hcz28_2
        try clear hcz28_3
        try clear hcz28_4
        try clear hcz29_0
        try clear hcz29_1
        try clear hcz29_2
        try clear hcz29_3
        try clear hcz29_4
        try clear hcz31_0
        try clear hcz31_1
        try clear hcz31_2
        try clear hcz31_3
        try clear hcz31_4
        try clear hfz13_0
        try clear hfz13_1
        try clear hfz13_2
        try clear hfz13_3
        try clear hfz13_4
        try clear hfz14_0
        try clear hfz14_1
        try clear hfz14_2
        try clear hfz14_3
        try clear hfz14_4
        try clear hfz15_0
        try clear hfz15_1
        try clear hfz15_2
        try clear hfz15_3
        try clear hfz15_4
        try clear hfz16_0
        try clear hfz16_1
        try clear hfz16_2
        try clear hfz16_3
        try clear hfz16_4
        try clear hfz20_0
        try clear hfz20_1
        try clear hfz20_2
        try clear hfz20_3
        try clear hfz20_4
        try clear hfz21_0
        try clear hfz21_1
        try clear hfz21_2
        try clear hfz21_3
        try clear hfz21_4
        try clear hfz27_0
        try clear hfz27_1
        try clear hfz27_2
        try clear hfz27_3
        try clear hfz27_4
        try clear hfz28_0
        try clear hfz28_1
        try clear hfz28_2
        try clear hfz28_3
        try clear hfz28_4
        try clear hfz29_0
        try clear hfz29_1
        try clear hfz29_2
        try clear hfz29_3
        try clear hfz29_4
        try clear hfz31_0
        try clear hfz31_1
        try clear hfz31_2
        try clear hfz31_3
        try clear hfz31_4
        try clear p2
        obtain ⟨kq, x61_29, rfl, HA, HJ29, BK258, HB⟩ := hcut
        cases kq with
        | zero => exact absurd HA.out (by simp [spec_InsOk.j2])
        | succ kj29 =>
         have H := HA.out
         clear HA
         simp only [spec_InsOk.j2] at H
         by_cases c34 : x61_29 = true
         ·subst c34
          have H1 : (some (a0_4 == 0)) = some r := by rw [if_pos rfl] at H; exact H
          clear H
          have H := H1
          clear H1
          obtain rfl := Option.some.inj H
          have hcz35_0 : wc.cell? ⟨gb258, 0, none⟩ = some (.int .i64 a0_0) := (blk_cell BK258.out 0).trans rfl
          have hcz35_1 : wc.cell? ⟨gb258, 1, none⟩ = some (.int .i64 a0_1) := (blk_cell BK258.out 1).trans rfl
          have hcz35_2 : wc.cell? ⟨gb258, 2, none⟩ = some (.int .i64 a0_2) := (blk_cell BK258.out 2).trans rfl
          have hcz35_3 : wc.cell? ⟨gb258, 3, none⟩ = some (.int .i64 a0_3) := (blk_cell BK258.out 3).trans rfl
          have hcz35_4 : wc.cell? ⟨gb258, 4, none⟩ = some (.int .i64 a0_4) := (blk_cell BK258.out 4).trans rfl
          have hfz35_0 := blk_frozen BK258.out 0
          have hfz35_1 := blk_frozen BK258.out 1
          have hfz35_2 := blk_frozen BK258.out 2
          have hfz35_3 := blk_frozen BK258.out 3
          have hfz35_4 := blk_frozen BK258.out 4
          go_wp2
          go_ret
          exact ⟨by first | rfl | (simp [errW_none, errW_some] <;> rfl) | (simp [*, errW_none, errW_some] <;> rfl), by repeat (first | (with_reducible first | exact HB.out | apply hA_ | apply hN_ | apply hD_ | refine below_set ?_ GE258.out) | exact HB.out)⟩
         ·replace c34 := Bool.eq_false_iff.mpr c34
          subst c34
          have H1 : (if a0_0 = 5 then (if t263 = true then (if a0_1 = 0 then (some (a0_3 == 0)) else (some false)) else (some false)) else (if a0_0 = 6 then (spec_InsOk.j3 kj29 x7_17 t263 a0_0 (a0_0 == 6) a0_0 a0_1 a0_2 a0_3 a0_4) else (spec_InsOk.j3 kj29 x7_17 t263 a0_0 (a0_0 == 8) a0_0 a0_1 a0_2 a0_3 a0_4))) = some r := by rw [if_neg (show ¬ (false = true) by decide)] at H; exact H
          clear H
          have H := H1
          clear H1
          by_cases c36 : a0_0 = 5
          ·rw [if_pos c36] at H
           have c36b0 : (a0_0 == 5) = true := beq_iff_eq.mpr c36
           have c36b1 : (a0_0 != 5) = false := bne_eq_false_iff_eq.mpr c36
           clear c36
           by_cases c37 : t263 = true
           ·subst c37
            have H1 : (if a0_1 = 0 then (some (a0_3 == 0)) else (some false)) = some r := by rw [if_pos rfl] at H; exact H
            clear H
            have H := H1
            clear H1
            by_cases c38 : a0_1 = 0
            ·rw [if_pos c38] at H
             have c38b0 : (a0_1 == 0) = true := beq_iff_eq.mpr c38
             have c38b1 : (a0_1 != 0) = false := bne_eq_false_iff_eq.mpr c38
             clear c38
             obtain rfl := Option.some.inj H
             have hcz39_0 : wc.cell? ⟨gb258, 0, none⟩ = some (.int .i64 a0_0) := (blk_cell BK258.out 0).trans rfl
             have hcz39_1 : wc.cell? ⟨gb258, 1, none⟩ = some (.int .i64 a0_1) := (blk_cell BK258.out 1).trans rfl
             have hcz39_2 : wc.cell? ⟨gb258, 2, none⟩ = some (.int .i64 a0_2) := (blk_cell BK258.out 2).trans rfl
             have hcz39_3 : wc.cell? ⟨gb258, 3, none⟩ = some (.int .i64 a0_3) := (blk_cell BK258.out 3).trans rfl
             have hcz39_4 : wc.cell? ⟨gb258, 4, none⟩ = some (.int .i64 a0_4) := (blk_cell BK258.out 4).trans rfl
             have hfz39_0 := blk_frozen BK258.out 0
             have hfz39_1 := blk_frozen BK258.out 1
             have hfz39_2 := blk_frozen BK258.out 2
             have hfz39_3 := blk_frozen BK258.out 3
             have hfz39_4 := blk_frozen BK258.out 4
             go_wp2
             go_ret
             exact ⟨by first | rfl | (simp [errW_none, errW_some] <;> rfl) | (simp [*, errW_none, errW_some] <;> rfl), by repeat (first | (with_reducible first | exact HB.out | apply hA_ | apply hN_ | apply hD_ | refine below_set ?_ GE258.out) | exact HB.out)⟩
            ·rw [if_neg c38] at H
             have c38b0 : (a0_1 == 0) = false := beq_eq_false_iff_ne.mpr c38
             have c38b1 : (a0_1 != 0) = true := bne_iff_ne.mpr c38
             obtain rfl := Option.some.inj H
             have hcz40_0 : wc.cell? ⟨gb258, 0, none⟩ = some (.int .i64 a0_0) := (blk_cell BK258.out 0).trans rfl
             have hcz40_1 : wc.cell? ⟨gb258, 1, none⟩ = some (.int .i64 a0_1) := (blk_cell BK258.out 1).trans rfl
             have hcz40_2 : wc.cell? ⟨gb258, 2, none⟩ = some (.int .i64 a0_2) := (blk_cell BK258.out 2).trans rfl
             have hcz40_3 : wc.cell? ⟨gb258, 3, none⟩ = some (.int .i64 a0_3) := (blk_cell BK258.out 3).trans rfl
             have hcz40_4 : wc.cell? ⟨gb258, 4, none⟩ = some (.int .i64 a0_4) := (blk_cell BK258.out 4).trans rfl
             have hfz40_0 := blk_frozen BK258.out 0
             have hfz40_1 := blk_frozen BK258.out 1
             have hfz40_2 := blk_frozen BK258.out 2
             have hfz40_3 := blk_frozen BK258.out 3
             have hfz40_4 := blk_frozen BK258.out 4
             go_wp2
             go_ret
             exact ⟨by first | rfl | (simp [errW_none, errW_some] <;> rfl) | (simp [*, errW_none, errW_some] <;> rfl), by repeat (first | (with_reducible first | exact HB.out | apply hA_ | apply hN_ | apply hD_ | refine below_set ?_ GE258.out) | exact HB.out)⟩
           ·replace c37 := Bool.eq_false_iff.mpr c37
            subst c37
            have H1 : (some false) = some r := by rw [if_neg (show ¬ (false = true) by decide)] at H; exact H
            clear H
            have H := H1
            clear H1
            obtain rfl := Option.some.inj H
            go_wp2
            go_ret
            exact ⟨by first | rfl | (simp [errW_none, errW_some] <;> rfl) | (simp [*, errW_none, errW_some] <;> rfl), by repeat (first | (with_reducible first | exact HB.out | apply hA_ | apply hN_ | apply hD_ | refine below_set ?_ GE258.out) | exact HB.out)⟩
          ·rw [if_neg c36] at H
           have c36b0 : (a0_0 == 5) = false := beq_eq_false_iff_ne.mpr c36
           have c36b1 : (a0_0 != 5) = true := bne_iff_ne.mpr c36
           have HC41 := aM_ H
           clear H
           go_upto_if 81 with (fail)
           go_cut [81] (fun v81 wc => ∃ (kq : Nat) (x81_40 : Bool), v81 = .bool x81_40 ∧ Aside0 (spec_InsOk.j3 kq x7_17 t263 a0_0 x81_40 a0_0 a0_1 a0_2 a0_3 a0_4 = some r) ∧ Aside0 (kq ≤ kj29) ∧ Aside0 (wc.heap[gb258]? = some (.cells #[.int .i64 a0_0, .int .i64 a0_1, .int .i64 a0_2, .int .i64 a0_3, .int .i64 a0_4] 32 (0, 0))) ∧ Aside0 (Below w.heap.size w wc))
           case first =>
            have H := HC41.out
            clear HC41
            by_cases c42 : a0_0 = 6
            ·rw [if_pos c42] at H
             have c42b0 : (a0_0 == 6) = true := beq_iff_eq.mpr c42
             have c42b1 : (a0_0 != 6) = false := bne_eq_false_iff_eq.mpr c42
             clear c42
             (first | rw [c42b0] | (simp only [i64_w, i32_w]; rw [c42b0]) | skip)
             have H' := aM_ H
             clear H
             go_wp2
             go_meet
             case rel => exact ⟨_, ((a0_0 == 6)), (by first | rfl | (simp; done) | (simp [*]; done)), H', ⟨by have := HJ3.out; have := HJ17.out; have := HJ29.out; first | omega | exact Nat.le_refl _⟩, ⟨by (with_reducible repeat (first | refine bN_ ?_ _ | refine bD_ ?_ | refine bA_ ?_ _)); exact BK258.out⟩, ⟨by repeat (first | (with_reducible first | exact HB.out | apply hA_ | apply hN_ | apply hD_ | refine below_set ?_ GE258.out) | exact HB.out)⟩⟩
            ·rw [if_neg c42] at H
             have c42b0 : (a0_0 == 6) = false := beq_eq_false_iff_ne.mpr c42
             have c42b1 : (a0_0 != 6) = true := bne_iff_ne.mpr c42
             (first | rw [c42b0] | (simp only [i64_w, i32_w]; rw [c42b0]) | skip)
             have H' := aM_ H
             clear H
             go_wp2
             go_meet
             case rel => exact ⟨_, ((a0_0 == 8)), (by first | rfl | (simp; done) | (simp [*]; done)), H', ⟨by have := HJ3.out; have := HJ17.out; have := HJ29.out; first | omega | exact Nat.le_refl _⟩, ⟨by (with_reducible repeat (first | refine bN_ ?_ _ | refine bD_ ?_ | refine bA_ ?_ _)); exact BK258.out⟩, ⟨by repeat (first | (with_reducible first | exact HB.out | apply hA_ | apply hN_ | apply hD_ | refine below_set ?_ GE258.out) | exact HB.out)⟩⟩
           case rest =>
            clear HC41
            try clear c1
            try clear c2
            try clear p2
            try clear c3
            try clear c4
            try clear c6
            try clear p6
            try clear c7
            try clear c9
            try clear c11
            try clear c12
            try clear c17
            try clear c19
            try clear c19b0
            try clear c23
            try clear c23b0
            try clear c23b1
            try clear c25
            try clear c26
            try clear c26b0
            try clear c26b1
            try clear c32
            try clear c32b0
            try clear c32b1
            try clear c33
            try clear c33b0
            try clear c33b1
            try clear c34
            try clear c36
            try clear c36b0
            try clear c36b1
            try clear c37
            try clear c38
            try clear c38b0
            try clear c38b1
            try clear c42
            try clear c42b0
            try clear c42b1
            try clear hcz13_0
            try clear hcz13_1
            try clear hcz13_2
            try clear hcz13_3
            try clear hcz13_4
            try clear hcz14_0
            try clear hcz14_1
            try clear hcz14_2
            try clear hcz14_3
            try clear hcz14_4
            try clear hcz15_0
            try clear hcz15_1
            try clear hcz15_2
            try clear hcz15_3
            try clear hcz15_4
            try clear hcz16_0
            try clear hcz16_1
            try clear hcz16_2
            try clear hcz16_3
            try clear hcz16_4
            try clear hcz20_0
            try clear hcz20_1
            try clear hcz20_2
            try clear hcz20_3
            try clear hcz20_4
            try clear hcz21_0
            try clear hcz21_1
            try clear hcz21_2
            try clear hcz21_3
            try clear hcz21_4
            try clear hcz27_0
            try clear hcz27_1
            try clear hcz27_2
            try clear hcz27_3
            try clear hcz27_4
            try clear hcz28_0
            try clear hcz28_1
            try clear hcz28_2
            try clear hcz28_3
            try clear hcz28_4
            try clear hcz29_0
            try clear hcz29_1
            try clear hcz29_2
            try clear hcz29_3
            try clear hcz29_4
            try clear hcz31_0
            try clear hcz31_1
            try clear hcz31_2
            try clear hcz31_3
            try clear hcz31_4
            try clear hcz35_0
            try clear hcz35_1
            try clear hcz35_2
            try clear hcz35_3
            try clear hcz35_4
            try clear hcz39_0
            try clear hcz39_1
            try clear hcz39_2
            try clear hcz39_3
            try clear hcz39_4
            try clear hcz40_0
            try clear hcz40_1
            try clear hcz40_2
            try clear hcz40_3
            try clear hcz40_4
            try clear hfz13_0
            try clear hfz13_1
            try clear hfz13_2
            try clear hfz13_3
            try clear hfz13_4
            try clear hfz14_0
            try clear hfz14_1
            try clear hfz14_2
            try clear hfz14_3
            try clear hfz14_4
            try clear hfz15_0
            try clear hfz15_1
            try clear hfz15_2
            try clear hfz15_3
            try clear hfz15_4
            try clear hfz16_0
            try clear hfz16_1
            try clear hfz16_2
            try clear hfz16_3
            try clear hfz16_4
            try clear hfz20_0
            try clear hfz20_1
            try clear hfz20_2
            try clear hfz20_3
            try clear hfz20_4
            try clear hfz21_0
            try clear hfz21_1
            try clear hfz21_2
            try clear hfz21_3
            try clear hfz21_4
            try clear hfz27_0
            try clear hfz27_1
            try clear hfz27_2
            try clear hfz27_3
            try clear hfz27_4
            try clear hfz28_0
            try clear hfz28_1
            try clear hfz28_2
            try clear hfz28_3
            try clear hfz28_4
            try clear hfz29_0
            try clear hfz29_1
            try clear hfz29_2
            try clear hfz29_3
            try clear hfz29_4
            try clear hfz31_0
            try clear hfz31_1
            try clear hfz31_2
            try clear hfz31_3
            try clear hfz31_4
            try clear hfz35_0
            try clear hfz35_1
            try clear hfz35_2
            try clear hfz35_3
            try clear hfz35_4
            try clear hfz39_0
            try clear hfz39_1
            try clear hfz39_2
            try clear hfz39_3
            try clear hfz39_4
            try clear hfz40_0
            try clear hfz40_1
            try clear hfz40_2
            try clear hfz40_3
            try clear hfz40_4
            try clear p2
            try clear p6
            obtain ⟨kq, x81_40, rfl, HA, HJ40, BK258, HB⟩ := hcut
            cases kq with
            | zero => exact absurd HA.out (by simp [spec_InsOk.j3])
            | succ kj40 =>
             have H := HA.out
             clear HA
             simp only [spec_InsOk.j3] at H
             by_cases c43 : x81_40 = true
             ·subst c43
              have H1 : (if t263 = true then (if a0_2 = 0 then (some (a0_1 != a0_3)) else (some false)) else (some false)) = some r := by rw [if_pos rfl] at H; exact H
              clear H
              have H := H1
              clear H1
              by_cases c44 : t263 = true
              ·subst c44
               have H1 : (if a0_2 = 0 then (some (a0_1 != a0_3)) else (some false)) = some r := by rw [if_pos rfl] at H; exact H
               clear H
               have H := H1
               clear H1
               by_cases c45 : a0_2 = 0
               ·rw [if_pos c45] at H
                have c45b0 : (a0_2 == 0) = true := beq_iff_eq.mpr c45
                have c45b1 : (a0_2 != 0) = false := bne_eq_false_iff_eq.mpr c45
                clear c45
                obtain rfl := Option.some.inj H
                have hcz46_0 : wc.cell? ⟨gb258, 0, none⟩ = some (.int .i64 a0_0) := (blk_cell BK258.out 0).trans rfl
                have hcz46_1 : wc.cell? ⟨gb258, 1, none⟩ = some (.int .i64 a0_1) := (blk_cell BK258.out 1).trans rfl
                have hcz46_2 : wc.cell? ⟨gb258, 2, none⟩ = some (.int .i64 a0_2) := (blk_cell BK258.out 2).trans rfl
                have hcz46_3 : wc.cell? ⟨gb258, 3, none⟩ = some (.int .i64 a0_3) := (blk_cell BK258.out 3).trans rfl
                have hcz46_4 : wc.cell? ⟨gb258, 4, none⟩ = some (.int .i64 a0_4) := (blk_cell BK258.out 4).trans rfl
                have hfz46_0 := blk_frozen BK258.out 0
                have hfz46_1 := blk_frozen BK258.out 1
                have hfz46_2 := blk_frozen BK258.out 2
                have hfz46_3 := blk_frozen BK258.out 3
                have hfz46_4 := blk_frozen BK258.out 4
                go_wp2
                go_ret
                exact ⟨by first | rfl | (simp [errW_none, errW_some] <;> rfl) | (simp [*, errW_none, errW_some] <;> rfl), by repeat (first | (with_reducible first | exact HB.out | apply hA_ | apply hN_ | apply hD_ | refine below_set ?_ GE258.out) | exact HB.out)⟩
               ·rw [if_neg c45] at H
                have c45b0 : (a0_2 == 0) = false := beq_eq_false_iff_ne.mpr c45
                have c45b1 : (a0_2 != 0) = true := bne_iff_ne.mpr c45
                obtain rfl := Option.some.inj H
                have hcz47_0 : wc.cell? ⟨gb258, 0, none⟩ = some (.int .i64 a0_0) := (blk_cell BK258.out 0).trans rfl
                have hcz47_1 : wc.cell? ⟨gb258, 1, none⟩ = some (.int .i64 a0_1) := (blk_cell BK258.out 1).trans rfl
                have hcz47_2 : wc.cell? ⟨gb258, 2, none⟩ = some (.int .i64 a0_2) := (blk_cell BK258.out 2).trans rfl
                have hcz47_3 : wc.cell? ⟨gb258, 3, none⟩ = some (.int .i64 a0_3) := (blk_cell BK258.out 3).trans rfl
                have hcz47_4 : wc.cell? ⟨gb258, 4, none⟩ = some (.int .i64 a0_4) := (blk_cell BK258.out 4).trans rfl
                have hfz47_0 := blk_frozen BK258.out 0
                have hfz47_1 := blk_frozen BK258.out 1
                have hfz47_2 := blk_frozen BK258.out 2
                have hfz47_3 := blk_frozen BK258.out 3
                have hfz47_4 := blk_frozen BK258.out 4
                go_wp2
                go_ret
                exact ⟨by first | rfl | (simp [errW_none, errW_some] <;> rfl) | (simp [*, errW_none, errW_some] <;> rfl), by repeat (first | (with_reducible first | exact HB.out | apply hA_ | apply hN_ | apply hD_ | refine below_set ?_ GE258.out) | exact HB.out)⟩
              ·replace c44 := Bool.eq_false_iff.mpr c44
               subst c44
               have H1 : (some false) = some r := by rw [if_neg (show ¬ (false = true) by decide)] at H; exact H
               clear H
               have H := H1
               clear H1
               obtain rfl := Option.some.inj H
               go_wp2
               go_ret
               exact ⟨by first | rfl | (simp [errW_none, errW_some] <;> rfl) | (simp [*, errW_none, errW_some] <;> rfl), by repeat (first | (with_reducible first | exact HB.out | apply hA_ | apply hN_ | apply hD_ | refine below_set ?_ GE258.out) | exact HB.out)⟩
             ·replace c43 := Bool.eq_false_iff.mpr c43
              subst c43
              have H1 : (if a0_0 = 7 then (if t263 = true then (some (a0_3 == 0)) else (some false)) else (if a0_0 = 9 then (if t263 = true then (if a0_1 = 0 then (if a0_2 = 0 then (some (a0_3 == 0)) else (some false)) else (some false)) else (some false)) else (if a0_0 = 10 then (if a0_1 = 0 then (if a0_3 = 0 then (some (a0_4 == 0)) else (some false)) else (some false)) else (if a0_0 = 11 then (if x7_17 = true then (if a0_1 = 0 then (if a0_2 = 0 then (some (a0_3 == 0)) else (some false)) else (some false)) else (some false)) else (if a0_0 = 12 then (if x7_17 = true then (if a0_1 = 0 then (some (a0_3 == 0)) else (some false)) else (some false)) else (if a0_0 = 13 then (some (a0_0 == 13 && (a0_1 == 0 && (a0_2 == 0 && (a0_3 == 0 && (a0_4 == 0)))))) else (some false))))))) = some r := by rw [if_neg (show ¬ (false = true) by decide)] at H; exact H
              clear H
              have H := H1
              clear H1
              by_cases c48 : a0_0 = 7
              ·rw [if_pos c48] at H
               have c48b0 : (a0_0 == 7) = true := beq_iff_eq.mpr c48
               have c48b1 : (a0_0 != 7) = false := bne_eq_false_iff_eq.mpr c48
               clear c48
               by_cases c49 : t263 = true
               ·subst c49
                have H1 : (some (a0_3 == 0)) = some r := by rw [if_pos rfl] at H; exact H
                clear H
                have H := H1
                clear H1
                obtain rfl := Option.some.inj H
                have hcz50_0 : wc.cell? ⟨gb258, 0, none⟩ = some (.int .i64 a0_0) := (blk_cell BK258.out 0).trans rfl
                have hcz50_1 : wc.cell? ⟨gb258, 1, none⟩ = some (.int .i64 a0_1) := (blk_cell BK258.out 1).trans rfl
                have hcz50_2 : wc.cell? ⟨gb258, 2, none⟩ = some (.int .i64 a0_2) := (blk_cell BK258.out 2).trans rfl
                have hcz50_3 : wc.cell? ⟨gb258, 3, none⟩ = some (.int .i64 a0_3) := (blk_cell BK258.out 3).trans rfl
                have hcz50_4 : wc.cell? ⟨gb258, 4, none⟩ = some (.int .i64 a0_4) := (blk_cell BK258.out 4).trans rfl
                have hfz50_0 := blk_frozen BK258.out 0
                have hfz50_1 := blk_frozen BK258.out 1
                have hfz50_2 := blk_frozen BK258.out 2
                have hfz50_3 := blk_frozen BK258.out 3
                have hfz50_4 := blk_frozen BK258.out 4
                go_wp2
                go_ret
                exact ⟨by first | rfl | (simp [errW_none, errW_some] <;> rfl) | (simp [*, errW_none, errW_some] <;> rfl), by repeat (first | (with_reducible first | exact HB.out | apply hA_ | apply hN_ | apply hD_ | refine below_set ?_ GE258.out) | exact HB.out)⟩
               ·replace c49 := Bool.eq_false_iff.mpr c49
                subst c49
                have H1 : (some false) = some r := by rw [if_neg (show ¬ (false = true) by decide)] at H; exact H
                clear H
                have H := H1
                clear H1
                obtain rfl := Option.some.inj H
                go_wp2
                go_ret
                exact ⟨by first | rfl | (simp [errW_none, errW_some] <;> rfl) | (simp [*, errW_none, errW_some] <;> rfl), by repeat (first | (with_reducible first | exact HB.out | apply hA_ | apply hN_ | apply hD_ | refine below_set ?_ GE258.out) | exact HB.out)⟩
              ·rw [if_neg c48] at H
               have c48b0 : (a0_0 == 7) = false := beq_eq_false_iff_ne.mpr c48
               have c48b1 : (a0_0 != 7) = true := bne_iff_ne.mpr c48
               by_cases c51 : a0_0 = 9
               ·rw [if_pos c51] at H
                have c51b0 : (a0_0 == 9) = true := beq_iff_eq.mpr c51
                have c51b1 : (a0_0 != 9) = false := bne_eq_false_iff_eq.mpr c51
                clear c51
                by_cases c52 : t263 = true
                ·subst c52
                 have H1 : (if a0_1 = 0 then (if a0_2 = 0 then (some (a0_3 == 0)) else (some false)) else (some false)) = some r := by rw [if_pos rfl] at H; exact H
                 clear H
                 have H := H1
                 clear H1
                 by_cases c53 : a0_1 = 0
                 ·rw [if_pos c53] at H
                  have c53b0 : (a0_1 == 0) = true := beq_iff_eq.mpr c53
                  have c53b1 : (a0_1 != 0) = false := bne_eq_false_iff_eq.mpr c53
                  clear c53
                  by_cases c54 : a0_2 = 0
                  ·rw [if_pos c54] at H
                   have c54b0 : (a0_2 == 0) = true := beq_iff_eq.mpr c54
                   have c54b1 : (a0_2 != 0) = false := bne_eq_false_iff_eq.mpr c54
                   clear c54
                   obtain rfl := Option.some.inj H
                   have hcz55_0 : wc.cell? ⟨gb258, 0, none⟩ = some (.int .i64 a0_0) := (blk_cell BK258.out 0).trans rfl
                   have hcz55_1 : wc.cell? ⟨gb258, 1, none⟩ = some (.int .i64 a0_1) := (blk_cell BK258.out 1).trans rfl
                   have hcz55_2 : wc.cell? ⟨gb258, 2, none⟩ = some (.int .i64 a0_2) := (blk_cell BK258.out 2).trans rfl
                   have hcz55_3 : wc.cell? ⟨gb258, 3, none⟩ = some (.int .i64 a0_3) := (blk_cell BK258.out 3).trans rfl
                   have hcz55_4 : wc.cell? ⟨gb258, 4, none⟩ = some (.int .i64 a0_4) := (blk_cell BK258.out 4).trans rfl
                   have hfz55_0 := blk_frozen BK258.out 0
                   have hfz55_1 := blk_frozen BK258.out 1
                   have hfz55_2 := blk_frozen BK258.out 2
                   have hfz55_3 := blk_frozen BK258.out 3
                   have hfz55_4 := blk_frozen BK258.out 4
                   go_wp2
                   go_ret
                   exact ⟨by first | rfl | (simp [errW_none, errW_some] <;> rfl) | (simp [*, errW_none, errW_some] <;> rfl), by repeat (first | (with_reducible first | exact HB.out | apply hA_ | apply hN_ | apply hD_ | refine below_set ?_ GE258.out) | exact HB.out)⟩
                  ·rw [if_neg c54] at H
                   have c54b0 : (a0_2 == 0) = false := beq_eq_false_iff_ne.mpr c54
                   have c54b1 : (a0_2 != 0) = true := bne_iff_ne.mpr c54
                   obtain rfl := Option.some.inj H
                   have hcz56_0 : wc.cell? ⟨gb258, 0, none⟩ = some (.int .i64 a0_0) := (blk_cell BK258.out 0).trans rfl
                   have hcz56_1 : wc.cell? ⟨gb258, 1, none⟩ = some (.int .i64 a0_1) := (blk_cell BK258.out 1).trans rfl
                   have hcz56_2 : wc.cell? ⟨gb258, 2, none⟩ = some (.int .i64 a0_2) := (blk_cell BK258.out 2).trans rfl
                   have hcz56_3 : wc.cell? ⟨gb258, 3, none⟩ = some (.int .i64 a0_3) := (blk_cell BK258.out 3).trans rfl
                   have hcz56_4 : wc.cell? ⟨gb258, 4, none⟩ = some (.int .i64 a0_4) := (blk_cell BK258.out 4).trans rfl
                   have hfz56_0 := blk_frozen BK258.out 0
                   have hfz56_1 := blk_frozen BK258.out 1
                   have hfz56_2 := blk_frozen BK258.out 2
                   have hfz56_3 := blk_frozen BK258.out 3
                   have hfz56_4 := blk_frozen BK258.out 4
                   go_wp2
                   go_ret
                   exact ⟨by first | rfl | (simp [errW_none, errW_some] <;> rfl) | (simp [*, errW_none, errW_some] <;> rfl), by repeat (first | (with_reducible first | exact HB.out | apply hA_ | apply hN_ | apply hD_ | refine below_set ?_ GE258.out) | exact HB.out)⟩
                 ·rw [if_neg c53] at H
                  have c53b0 : (a0_1 == 0) = false := beq_eq_false_iff_ne.mpr c53
                  have c53b1 : (a0_1 != 0) = true := bne_iff_ne.mpr c53
                  obtain rfl := Option.some.inj H
                  have hcz57_0 : wc.cell? ⟨gb258, 0, none⟩ = some (.int .i64 a0_0) := (blk_cell BK258.out 0).trans rfl
                  have hcz57_1 : wc.cell? ⟨gb258, 1, none⟩ = some (.int .i64 a0_1) := (blk_cell BK258.out 1).trans rfl
                  have hcz57_2 : wc.cell? ⟨gb258, 2, none⟩ = some (.int .i64 a0_2) := (blk_cell BK258.out 2).trans rfl
                  have hcz57_3 : wc.cell? ⟨gb258, 3, none⟩ = some (.int .i64 a0_3) := (blk_cell BK258.out 3).trans rfl
                  have hcz57_4 : wc.cell? ⟨gb258, 4, none⟩ = some (.int .i64 a0_4) := (blk_cell BK258.out 4).trans rfl
                  have hfz57_0 := blk_frozen BK258.out 0
                  have hfz57_1 := blk_frozen BK258.out 1
                  have hfz57_2 := blk_frozen BK258.out 2
                  have hfz57_3 := blk_frozen BK258.out 3
                  have hfz57_4 := blk_frozen BK258.out 4
                  go_wp2
                  go_ret
                  exact ⟨by first | rfl | (simp [errW_none, errW_some] <;> rfl) | (simp [*, errW_none, errW_some] <;> rfl), by repeat (first | (with_reducible first | exact HB.out | apply hA_ | apply hN_ | apply hD_ | refine below_set ?_ GE258.out) | exact HB.out)⟩
                ·replace c52 := Bool.eq_false_iff.mpr c52
                 subst c52
                 have H1 : (some false) = some r := by rw [if_neg (show ¬ (false = true) by decide)] at H; exact H
                 clear H
                 have H := H1
                 clear H1
                 obtain rfl := Option.some.inj H
                 go_wp2
                 go_ret
                 exact ⟨by first | rfl | (simp [errW_none, errW_some] <;> rfl) | (simp [*, errW_none, errW_some] <;> rfl), by repeat (first | (with_reducible first | exact HB.out | apply hA_ | apply hN_ | apply hD_ | refine below_set ?_ GE258.out) | exact HB.out)⟩
               ·rw [if_neg c51] at H
                have c51b0 : (a0_0 == 9) = false := beq_eq_false_iff_ne.mpr c51
                have c51b1 : (a0_0 != 9) = true := bne_iff_ne.mpr c51
                by_cases c58 : a0_0 = 10
                ·rw [if_pos c58] at H
                 have c58b0 : (a0_0 == 10) = true := beq_iff_eq.mpr c58
                 have c58b1 : (a0_0 != 10) = false := bne_eq_false_iff_eq.mpr c58
                 clear c58
                 by_cases c59 : a0_1 = 0
                 ·rw [if_pos c59] at H
                  have c59b0 : (a0_1 == 0) = true := beq_iff_eq.mpr c59
                  have c59b1 : (a0_1 != 0) = false := bne_eq_false_iff_eq.mpr c59
                  clear c59
                  by_cases c60 : a0_3 = 0
                  ·rw [if_pos c60] at H
                   have c60b0 : (a0_3 == 0) = true := beq_iff_eq.mpr c60
                   have c60b1 : (a0_3 != 0) = false := bne_eq_false_iff_eq.mpr c60
                   clear c60
                   obtain rfl := Option.some.inj H
                   have hcz61_0 : wc.cell? ⟨gb258, 0, none⟩ = some (.int .i64 a0_0) := (blk_cell BK258.out 0).trans rfl
                   have hcz61_1 : wc.cell? ⟨gb258, 1, none⟩ = some (.int .i64 a0_1) := (blk_cell BK258.out 1).trans rfl
                   have hcz61_2 : wc.cell? ⟨gb258, 2, none⟩ = some (.int .i64 a0_2) := (blk_cell BK258.out 2).trans rfl
                   have hcz61_3 : wc.cell? ⟨gb258, 3, none⟩ = some (.int .i64 a0_3) := (blk_cell BK258.out 3).trans rfl
                   have hcz61_4 : wc.cell? ⟨gb258, 4, none⟩ = some (.int .i64 a0_4) := (blk_cell BK258.out 4).trans rfl
                   have hfz61_0 := blk_frozen BK258.out 0
                   have hfz61_1 := blk_frozen BK258.out 1
                   have hfz61_2 := blk_frozen BK258.out 2
                   have hfz61_3 := blk_frozen BK258.out 3
                   have hfz61_4 := blk_frozen BK258.out 4
                   go_wp2
                   go_ret
                   exact ⟨by first | rfl | (simp [errW_none, errW_some] <;> rfl) | (simp [*, errW_none, errW_some] <;> rfl), by repeat (first | (with_reducible first | exact HB.out | apply hA_ | apply hN_ | apply hD_ | refine below_set ?_ GE258.out) | exact HB.out)⟩
                  ·rw [if_neg c60] at H
                   have c60b0 : (a0_3 == 0) = false := beq_eq_false_iff_ne.mpr c60
                   have c60b1 : (a0_3 != 0) = true := bne_iff_ne.mpr c60
                   obtain rfl := Option.some.inj H
                   have hcz62_0 : wc.cell? ⟨gb258, 0, none⟩ = some (.int .i64 a0_0) := (blk_cell BK258.out 0).trans rfl
                   have hcz62_1 : wc.cell? ⟨gb258, 1, none⟩ = some (.int .i64 a0_1) := (blk_cell BK258.out 1).trans rfl
                   have hcz62_2 : wc.cell? ⟨gb258, 2, none⟩ = some (.int .i64 a0_2) := (blk_cell BK258.out 2).trans rfl
                   have hcz62_3 : wc.cell? ⟨gb258, 3, none⟩ = some (.int .i64 a0_3) := (blk_cell BK258.out 3).trans rfl
                   have hcz62_4 : wc.cell? ⟨gb258, 4, none⟩ = some (.int .i64 a0_4) := (blk_cell BK258.out 4).trans rfl
                   have hfz62_0 := blk_frozen BK258.out 0
                   have hfz62_1 := blk_frozen BK258.out 1
                   have hfz62_2 := blk_frozen BK258.out 2
                   have hfz62_3 := blk_frozen BK258.out 3
                   have hfz62_4 := blk_frozen BK258.out 4
                   go_wp2
                   go_ret
                   exact ⟨by first | rfl | (simp [errW_none, errW_some] <;> rfl) | (simp [*, errW_none, errW_some] <;> rfl), by repeat (first | (with_reducible first | exact HB.out | apply hA_ | apply hN_ | apply hD_ | refine below_set ?_ GE258.out) | exact HB.out)⟩
                 ·rw [if_neg c59] at H
                  have c59b0 : (a0_1 == 0) = false := beq_eq_false_iff_ne.mpr c59
                  have c59b1 : (a0_1 != 0) = true := bne_iff_ne.mpr c59
                  obtain rfl := Option.some.inj H
                  have hcz63_0 : wc.cell? ⟨gb258, 0, none⟩ = some (.int .i64 a0_0) := (blk_cell BK258.out 0).trans rfl
                  have hcz63_1 : wc.cell? ⟨gb258, 1, none⟩ = some (.int .i64 a0_1) := (blk_cell BK258.out 1).trans rfl
                  have hcz63_2 : wc.cell? ⟨gb258, 2, none⟩ = some (.int .i64 a0_2) := (blk_cell BK258.out 2).trans rfl
                  have hcz63_3 : wc.cell? ⟨gb258, 3, none⟩ = some (.int .i64 a0_3) := (blk_cell BK258.out 3).trans rfl
                  have hcz63_4 : wc.cell? ⟨gb258, 4, none⟩ = some (.int .i64 a0_4) := (blk_cell BK258.out 4).trans rfl
                  have hfz63_0 := blk_frozen BK258.out 0
                  have hfz63_1 := blk_frozen BK258.out 1
                  have hfz63_2 := blk_frozen BK258.out 2
                  have hfz63_3 := blk_frozen BK258.out 3
                  have hfz63_4 := blk_frozen BK258.out 4
                  go_wp2
                  go_ret
                  exact ⟨by first | rfl | (simp [errW_none, errW_some] <;> rfl) | (simp [*, errW_none, errW_some] <;> rfl), by repeat (first | (with_reducible first | exact HB.out | apply hA_ | apply hN_ | apply hD_ | refine below_set ?_ GE258.out) | exact HB.out)⟩
                ·rw [if_neg c58] at H
                 have c58b0 : (a0_0 == 10) = false := beq_eq_false_iff_ne.mpr c58
                 have c58b1 : (a0_0 != 10) = true := bne_iff_ne.mpr c58
                 by_cases c64 : a0_0 = 11
                 ·rw [if_pos c64] at H
                  have c64b0 : (a0_0 == 11) = true := beq_iff_eq.mpr c64
                  have c64b1 : (a0_0 != 11) = false := bne_eq_false_iff_eq.mpr c64
                  clear c64
                  by_cases c65 : x7_17 = true
                  ·subst c65
                   have H1 : (if a0_1 = 0 then (if a0_2 = 0 then (some (a0_3 == 0)) else (some false)) else (some false)) = some r := by rw [if_pos rfl] at H; exact H
                   clear H
                   have H := H1
                   clear H1
                   by_cases c66 : a0_1 = 0
                   ·rw [if_pos c66] at H
                    have c66b0 : (a0_1 == 0) = true := beq_iff_eq.mpr c66
                    have c66b1 : (a0_1 != 0) = false := bne_eq_false_iff_eq.mpr c66
                    clear c66
                    by_cases c67 : a0_2 = 0
                    ·rw [if_pos c67] at H
                     have c67b0 : (a0_2 == 0) = true := beq_iff_eq.mpr c67
                     have c67b1 : (a0_2 != 0) = false := bne_eq_false_iff_eq.mpr c67
                     clear c67
                     obtain rfl := Option.some.inj H
                     have hcz68_0 : wc.cell? ⟨gb258, 0, none⟩ = some (.int .i64 a0_0) := (blk_cell BK258.out 0).trans rfl
                     have hcz68_1 : wc.cell? ⟨gb258, 1, none⟩ = some (.int .i64 a0_1) := (blk_cell BK258.out 1).trans rfl
                     have hcz68_2 : wc.cell? ⟨gb258, 2, none⟩ = some (.int .i64 a0_2) := (blk_cell BK258.out 2).trans rfl
                     have hcz68_3 : wc.cell? ⟨gb258, 3, none⟩ = some (.int .i64 a0_3) := (blk_cell BK258.out 3).trans rfl
                     have hcz68_4 : wc.cell? ⟨gb258, 4, none⟩ = some (.int .i64 a0_4) := (blk_cell BK258.out 4).trans rfl
                     have hfz68_0 := blk_frozen BK258.out 0
                     have hfz68_1 := blk_frozen BK258.out 1
                     have hfz68_2 := blk_frozen BK258.out 2
                     have hfz68_3 := blk_frozen BK258.out 3
                     have hfz68_4 := blk_frozen BK258.out 4
                     go_wp2
                     go_ret
                     exact ⟨by first | rfl | (simp [errW_none, errW_some] <;> rfl) | (simp [*, errW_none, errW_some] <;> rfl), by repeat (first | (with_reducible first | exact HB.out | apply hA_ | apply hN_ | apply hD_ | refine below_set ?_ GE258.out) | exact HB.out)⟩
                    ·rw [if_neg c67] at H
                     have c67b0 : (a0_2 == 0) = false := beq_eq_false_iff_ne.mpr c67
                     have c67b1 : (a0_2 != 0) = true := bne_iff_ne.mpr c67
                     obtain rfl := Option.some.inj H
                     have hcz69_0 : wc.cell? ⟨gb258, 0, none⟩ = some (.int .i64 a0_0) := (blk_cell BK258.out 0).trans rfl
                     have hcz69_1 : wc.cell? ⟨gb258, 1, none⟩ = some (.int .i64 a0_1) := (blk_cell BK258.out 1).trans rfl
                     have hcz69_2 : wc.cell? ⟨gb258, 2, none⟩ = some (.int .i64 a0_2) := (blk_cell BK258.out 2).trans rfl
                     have hcz69_3 : wc.cell? ⟨gb258, 3, none⟩ = some (.int .i64 a0_3) := (blk_cell BK258.out 3).trans rfl
                     have hcz69_4 : wc.cell? ⟨gb258, 4, none⟩ = some (.int .i64 a0_4) := (blk_cell BK258.out 4).trans rfl
                     have hfz69_0 := blk_frozen BK258.out 0
                     have hfz69_1 := blk_frozen BK258.out 1
                     have hfz69_2 := blk_frozen BK258.out 2
                     have hfz69_3 := blk_frozen BK258.out 3
                     have hfz69_4 := blk_frozen BK258.out 4
                     go_wp2
                     go_ret
                     exact ⟨by first | rfl | (simp [errW_none, errW_some] <;> rfl) | (simp [*, errW_none, errW_some] <;> rfl), by repeat (first | (with_reducible first | exact HB.out | apply hA_ | apply hN_ | apply hD_ | refine below_set ?_ GE258.out) | exact HB.out)⟩
                   ·rw [if_neg c66] at H
                    have c66b0 : (a0_1 == 0) = false := beq_eq_false_iff_ne.mpr c66
                    have c66b1 : (a0_1 != 0) = true := bne_iff_ne.mpr c66
                    obtain rfl := Option.some.inj H
                    have hcz70_0 : wc.cell? ⟨gb258, 0, none⟩ = some (.int .i64 a0_0) := (blk_cell BK258.out 0).trans rfl
                    have hcz70_1 : wc.cell? ⟨gb258, 1, none⟩ = some (.int .i64 a0_1) := (blk_cell BK258.out 1).trans rfl
                    have hcz70_2 : wc.cell? ⟨gb258, 2, none⟩ = some (.int .i64 a0_2) := (blk_cell BK258.out 2).trans rfl
                    have hcz70_3 : wc.cell? ⟨gb258, 3, none⟩ = some (.int .i64 a0_3) := (blk_cell BK258.out 3).trans rfl
                    have hcz70_4 : wc.cell? ⟨gb258, 4, none⟩ = some (.int .i64 a0_4) := (blk_cell BK258.out 4).trans rfl
                    have hfz70_0 := blk_frozen BK258.out 0
                    have hfz70_1 := blk_frozen BK258.out 1
                    have hfz70_2 := blk_frozen BK258.out 2
                    have hfz70_3 := blk_frozen BK258.out 3
                    have hfz70_4 := blk_frozen BK258.out 4
                    go_wp2
                    go_ret
                    exact ⟨by first | rfl | (simp [errW_none, errW_some] <;> rfl) | (simp [*, errW_none, errW_some] <;> rfl), by repeat (first | (with_reducible first | exact HB.out | apply hA_ | apply hN_ | apply hD_ | refine below_set ?_ GE258.out) | exact HB.out)⟩
                  ·replace c65 := Bool.eq_false_iff.mpr c65
                   subst c65
                   have H1 : (some false) = some r := by rw [if_neg (show ¬ (false = true) by decide)] at H; exact H
                   clear H
                   have H := H1
                   clear H1
                   obtain rfl := Option.some.inj H
                   go_wp2
                   go_ret
                   exact ⟨by first | rfl | (simp [errW_none, errW_some] <;> rfl) | (simp [*, errW_none, errW_some] <;> rfl), by repeat (first | (with_reducible first | exact HB.out | apply hA_ | apply hN_ | apply hD_ | refine below_set ?_ GE258.out) | exact HB.out)⟩
                 ·rw [if_neg c64] at H
                  have c64b0 : (a0_0 == 11) = false := beq_eq_false_iff_ne.mpr c64
                  have c64b1 : (a0_0 != 11) = true := bne_iff_ne.mpr c64
                  by_cases c71 : a0_0 = 12
                  ·rw [if_pos c71] at H
                   have c71b0 : (a0_0 == 12) = true := beq_iff_eq.mpr c71
                   have c71b1 : (a0_0 != 12) = false := bne_eq_false_iff_eq.mpr c71
                   clear c71
                   by_cases c72 : x7_17 = true
                   ·subst c72
                    have H1 : (if a0_1 = 0 then (some (a0_3 == 0)) else (some false)) = some r := by rw [if_pos rfl] at H; exact H
                    clear H
                    have H := H1
                    clear H1
                    by_cases c73 : a0_1 = 0
                    ·rw [if_pos c73] at H
                     have c73b0 : (a0_1 == 0) = true := beq_iff_eq.mpr c73
                     have c73b1 : (a0_1 != 0) = false := bne_eq_false_iff_eq.mpr c73
                     clear c73
                     obtain rfl := Option.some.inj H
                     have hcz74_0 : wc.cell? ⟨gb258, 0, none⟩ = some (.int .i64 a0_0) := (blk_cell BK258.out 0).trans rfl
                     have hcz74_1 : wc.cell? ⟨gb258, 1, none⟩ = some (.int .i64 a0_1) := (blk_cell BK258.out 1).trans rfl
                     have hcz74_2 : wc.cell? ⟨gb258, 2, none⟩ = some (.int .i64 a0_2) := (blk_cell BK258.out 2).trans rfl
                     have hcz74_3 : wc.cell? ⟨gb258, 3, none⟩ = some (.int .i64 a0_3) := (blk_cell BK258.out 3).trans rfl
                     have hcz74_4 : wc.cell? ⟨gb258, 4, none⟩ = some (.int .i64 a0_4) := (blk_cell BK258.out 4).trans rfl
                     have hfz74_0 := blk_frozen BK258.out 0
                     have hfz74_1 := blk_frozen BK258.out 1
                     have hfz74_2 := blk_frozen BK258.out 2
                     have hfz74_3 := blk_frozen BK258.out 3
                     have hfz74_4 := blk_frozen BK258.out 4
                     go_wp2
                     go_ret
                     exact ⟨by first | rfl | (simp [errW_none, errW_some] <;> rfl) | (simp [*, errW_none, errW_some] <;> rfl), by repeat (first | (with_reducible first | exact HB.out | apply hA_ | apply hN_ | apply hD_ | refine below_set ?_ GE258.out) | exact HB.out)⟩
                    ·rw [if_neg c73] at H
                     have c73b0 : (a0_1 == 0) = false := beq_eq_false_iff_ne.mpr c73
                     have c73b1 : (a0_1 != 0) = true := bne_iff_ne.mpr c73
                     obtain rfl := Option.some.inj H
                     have hcz75_0 : wc.cell? ⟨gb258, 0, none⟩ = some (.int .i64 a0_0) := (blk_cell BK258.out 0).trans rfl
                     have hcz75_1 : wc.cell? ⟨gb258, 1, none⟩ = some (.int .i64 a0_1) := (blk_cell BK258.out 1).trans rfl
                     have hcz75_2 : wc.cell? ⟨gb258, 2, none⟩ = some (.int .i64 a0_2) := (blk_cell BK258.out 2).trans rfl
                     have hcz75_3 : wc.cell? ⟨gb258, 3, none⟩ = some (.int .i64 a0_3) := (blk_cell BK258.out 3).trans rfl
                     have hcz75_4 : wc.cell? ⟨gb258, 4, none⟩ = some (.int .i64 a0_4) := (blk_cell BK258.out 4).trans rfl
                     have hfz75_0 := blk_frozen BK258.out 0
                     have hfz75_1 := blk_frozen BK258.out 1
                     have hfz75_2 := blk_frozen BK258.out 2
                     have hfz75_3 := blk_frozen BK258.out 3
                     have hfz75_4 := blk_frozen BK258.out 4
                     go_wp2
                     go_ret
                     exact ⟨by first | rfl | (simp [errW_none, errW_some] <;> rfl) | (simp [*, errW_none, errW_some] <;> rfl), by repeat (first | (with_reducible first | exact HB.out | apply hA_ | apply hN_ | apply hD_ | refine below_set ?_ GE258.out) | exact HB.out)⟩
                   ·replace c72 := Bool.eq_false_iff.mpr c72
                    subst c72
                    have H1 : (some false) = some r := by rw [if_neg (show ¬ (false = true) by decide)] at H; exact H
                    clear H
                    have H := H1
                    clear H1
                    obtain rfl := Option.some.inj H
                    go_wp2
                    go_ret
                    exact ⟨by first | rfl | (simp [errW_none, errW_some] <;> rfl) | (simp [*, errW_none, errW_some] <;> rfl), by repeat (first | (with_reducible first | exact HB.out | apply hA_ | apply hN_ | apply hD_ | refine below_set ?_ GE258.out) | exact HB.out)⟩
                  ·rw [if_neg c71] at H
                   have c71b0 : (a0_0 == 12) = false := beq_eq_false_iff_ne.mpr c71
                   have c71b1 : (a0_0 != 12) = true := bne_iff_ne.mpr c71
                   by_cases c76 : a0_0 = 13
                   ·rw [if_pos c76] at H
                    have c76b0 : (a0_0 == 13) = true := beq_iff_eq.mpr c76
                    have c76b1 : (a0_0 != 13) = false := bne_eq_false_iff_eq.mpr c76
                    clear c76
                    obtain rfl := Option.some.inj H
                    have hcz77_0 : wc.cell? ⟨gb258, 0, none⟩ = some (.int .i64 a0_0) := (blk_cell BK258.out 0).trans rfl
                    have hcz77_1 : wc.cell? ⟨gb258, 1, none⟩ = some (.int .i64 a0_1) := (blk_cell BK258.out 1).trans rfl
                    have hcz77_2 : wc.cell? ⟨gb258, 2, none⟩ = some (.int .i64 a0_2) := (blk_cell BK258.out 2).trans rfl
                    have hcz77_3 : wc.cell? ⟨gb258, 3, none⟩ = some (.int .i64 a0_3) := (blk_cell BK258.out 3).trans rfl
                    have hcz77_4 : wc.cell? ⟨gb258, 4, none⟩ = some (.int .i64 a0_4) := (blk_cell BK258.out 4).trans rfl
                    have hfz77_0 := blk_frozen BK258.out 0
                    have hfz77_1 := blk_frozen BK258.out 1
                    have hfz77_2 := blk_frozen BK258.out 2
                    have hfz77_3 := blk_frozen BK258.out 3
                    have hfz77_4 := blk_frozen BK258.out 4
                    go_wp2
                    go_ret
                    exact ⟨by first | rfl | (simp [errW_none, errW_some] <;> rfl) | (simp [*, errW_none, errW_some] <;> rfl), by repeat (first | (with_reducible first | exact HB.out | apply hA_ | apply hN_ | apply hD_ | refine below_set ?_ GE258.out) | exact HB.out)⟩
                   ·rw [if_neg c76] at H
                    have c76b0 : (a0_0 == 13) = false := beq_eq_false_iff_ne.mpr c76
                    have c76b1 : (a0_0 != 13) = true := bne_iff_ne.mpr c76
                    obtain rfl := Option.some.inj H
                    go_wp2
                    go_ret
                    exact ⟨by first | rfl | (simp [errW_none, errW_some] <;> rfl) | (simp [*, errW_none, errW_some] <;> rfl), by repeat (first | (with_reducible first | exact HB.out | apply hA_ | apply hN_ | apply hD_ | refine below_set ?_ GE258.out) | exact HB.out)⟩
end Go.Proofs.YtkjfcmgpplapeaaDoor.PFnExactInsRead
