/- A part of the proof that the law FnTexts holds for every input: the words, functions and walks that its row needs, without a condition of their own. -/
import Derived.Test.YtdbobicbbfmepaaDoorZFnTextsa4
import Derived.Test.YtdbobicbbfmepaaDoorZFnTextsa5
import Derived.Test.YtdbobicbbfmepaaDoorZFnTextss
namespace Go.Proofs.YtdbobicbbfmepaaDoor.PFnTexts
open Go.RowKit Go.Proofs.YtdbobicbbfmepaaDoorW.PrintWords Go.Proofs.YtdbobicbbfmepaaDoorW.PrintLast Go.Proofs.YtdbobicbbfmepaaDoorW.PrintMore
attribute [local go_sem] max2_int min2_int max_two min_two max_three min_three max_four min_four   -- for this text's walks alone
set_option linter.unusedVariables false
set_option linter.unusedSimpArgs false
def spec_l3Draw.l0 : Nat → Int → List Int → Int → Int → Int → List Int → Bool → Option (Int × List Int × Bool × Int × Int)
  | 0, _, _, _, _, _, _, _ => none
  | k + 1, x4, x1000, x1001, x1002, x319000, x319001, x319002 => (spec_l1Below.f x1000 x1001 x1002 (wrap64 (x319000 + 1))).bind fun bt319 => (if x4 < bt319.1 then ((spec_l1Below.f x1000 bt319.2.1 bt319.2.2 20).bind fun bt322 => (if x319001.length < 17592186044416 then (spec_l3Draw.l0 k (wrap64 (x4 + 1)) x1000 bt322.2.1 bt322.2.2 x319000 (x319001 ++ [wrap64 (bt322.1 - 3)]) x319002) else (none))) else ((spec_l1Below.f x1000 bt319.2.1 bt319.2.2 12).bind fun bt328 => (if bt328.1 = 0 then ((spec_l1PickInt.f x1000 bt328.2.1 bt328.2.2 (([0, 5, (-1)] : List Int))).bind fun bt334 => (some (bt334.1, x319001, x319002, bt334.2.1, bt334.2.2))) else (if bt328.1 = 1 then ((some (([1, 2, 3, 4] : List Int) : List Int)).bind fun y337 => (if x319001.length + y337.length < 17592186044416 then (some (x319000, (x319001 ++ y337), x319002, bt328.2.1, bt328.2.2)) else (none))) else (some (x319000, x319001, x319002, bt328.2.1, bt328.2.2))))))
def spec_l3Draw.f (k : Nat) (s0_0 : List Int) (s0_1 : Int) (s0_2 : Int) : Option (Int × List Int × Bool × Int × Int) := (spec_l1Below.f s0_0 s0_1 s0_2 4).bind fun bt312 => ((spec_l1Once.f s0_0 bt312.2.1 bt312.2.2 4).bind fun bt315 => (spec_l3Draw.l0 k 0 s0_0 bt315.2.1 bt315.2.2 (wrap64 (1 + bt312.1)) ([] : List Int) bt315.1))
def spec_l3Draw.T5 : Bool × List (List Nat × List Nat) := (true, [([], []), ([0], [0]), ([], []), ([2], [2]), ([3], [3]), ([4], [4]), ([1, 5, 3], [1, 5]), ([0, 1, 2, 3, 4, 5, 6], []), ([7, 6, 6, 0, 1, 2, 3, 4, 5, 6], [6, 7])])
def spec_l3Draw.B5 : List Nat := [0, 1, 0, 4, 12, 28, 63, 127, 255]
theorem spec_l3Draw.tab5 : rtab .any (opsOf Tryd.f38 5) = spec_l3Draw.T5 := by kernel_rfl
theorem spec_l3Draw.bits5 : waitsOk spec_l3Draw.T5.2 spec_l3Draw.B5 = true := by kernel_rfl
set_option maxHeartbeats 8000000 in
set_option maxRecDepth 100000 in
theorem spec_l3Draw.calls (k : Nat) (g : Nat) (s0_0 : List Int) (s0_1 : Int) (s0_2 : Int) (r1 : Int) (r2 : List Int) (r3 : Bool) (r4 : Int) (r5 : Int) (w0 w : World) (hI : IsS97 w0 w g s0_0 s0_1 s0_2) (hB : Below w0.heap.size w0 w) (h : spec_l3Draw.f k s0_0 s0_1 s0_2 = some (r1, r2, r3, r4, r5)) :
  Calls Tryd.prog 38 #[.pointer (some ⟨g, 0, none⟩)] w fun e w' => ∃ v1_ : Value, e = .returned (.agg #[.int .i64 r1, v1_, .bool r3]) ∧ Kd.R (Kd.int .i64) 3 w' w.heap.size (fun _ => True) v1_ r2 ∧ IsS97 w0 w' g s0_0 r4 r5 ∧ Below w0.heap.size w0 w' ∧ KeepBut w w' g none := by
 have hu33 := Tryd.underlying33
 have HI0 := aM_ hI
 have HK := aM_ (KeepBut.refl w g none)
 have HL := aM_ hB.size
 clear hI
 have HW0 := aM_ hB.size
 have HB := aM_ hB
 clear hB
 have H : ((spec_l1Below.f s0_0 s0_1 s0_2 4).bind fun bt312 => ((spec_l1Once.f s0_0 bt312.2.1 bt312.2.2 4).bind fun bt315 => (spec_l3Draw.l0 k 0 s0_0 bt315.2.1 bt315.2.2 (wrap64 (1 + bt312.1)) ([] : List Int) bt315.1))) = some (r1, r2, r3, r4, r5) := h
 clear h
 replace H := Option.bind_eq_some_iff.mp H
 obtain ⟨⟨t312, t313, t314⟩, A20, H⟩ := H
 replace H : ((spec_l1Once.f s0_0 t313 t314 4).bind fun bt315 => (spec_l3Draw.l0 k 0 s0_0 bt315.2.1 bt315.2.2 (wrap64 (1 + t312)) ([] : List Int) bt315.1)) = some (r1, r2, r3, r4, r5) := H
 have A2 := aM_ A20
 clear A20
 replace H := Option.bind_eq_some_iff.mp H
 obtain ⟨⟨t315, t316, t317⟩, A30, H⟩ := H
 replace H : (spec_l3Draw.l0 k 0 s0_0 t316 t317 (wrap64 (1 + t312)) ([] : List Int) t315) = some (r1, r2, r3, r4, r5) := H
 have A3 := aM_ A30
 clear A30
 have H' := aM_ H
 clear H
 go_enter Tryd.func38, Tryd.ntmps38
 go_wp2_with (first | ((with_reducible refine gate_dst (N := 2) rfl ?_); refine bX_ 2 (cs := #[.int .i64 0, .slice none 0 0, .bool false]) (t := 33) ?_; intro gb311 hg w4 hbox hb; have n0 := aM_ (IsS97.below (gI97_ HI0.out) hb); have n1 := aM_ (KeepBut.trans (gK_ HK.out) (KeepBut.of_below hb g none) (.inl rfl)); have n2 := aM_ (below_step (gB97_ HB.out) hb); have n3 := aM_ (hbox); have n4 := aM_ ((by rw [hg]; exact (keep_size (w := w) (g := g) (row := none) (gK_ HK.out)) : w.heap.size ≤ gb311)); have n5 := aM_ ((Nat.le_trans HW0.out (by rw [hg]; exact (keep_size (w := w) (g := g) (row := none) (gK_ HK.out)) : w.heap.size ≤ gb311) : w0.heap.size ≤ gb311)); have n6 := aM_ ((by rw [hg]; exact Nat.ne_of_lt (IsS97.lt (show IsS97 w0 _ g s0_0 s0_1 s0_2 from gI97_ HI0.out)) : g ≠ gb311)); have n7 := aM_ ((by rw [hg]; exact Nat.ne_of_gt (IsS97.lt (show IsS97 w0 _ g s0_0 s0_1 s0_2 from gI97_ HI0.out)) : gb311 ≠ g)); clear HI0; clear HK; clear HB; have HI0 := n0; have HK := n1; have HB := n2; have BK311 := n3; have GW311 := n4; have GE311 := n5; have NB0_311 := n6; have NB311_0 := n7; clear n0 n1 n2 n3 n4 n5 n6 n7; clear hb hbox hg) | ((with_reducible refine gate_callee (f := 36) rfl ?_); refine gL_ (some 6) Tryd.func36 #[.pointer (some ⟨g, 0, none⟩), .int .i64 4] ?_; (with_reducible refine (spec_l1Below.calls g s0_0 s0_1 s0_2 4 t312 t313 t314 w0 _ ?side1 ?side2 A2.out).mono ?_); (case side1 => exact gI97_ HI0.out); (case side2 => exact gB97_ HB.out); rintro e w5 ⟨rfl, hi, hb, hk⟩; refine ⟨_, rfl, ?_⟩; have n0 := aM_ (KeepBut.blk hk (g' := gb311) (o := .cells #[.int .i64 0, .slice none 0 0, .bool false] 33 (0, 0)) (by (with_reducible repeat (first | refine bN_ ?_ _ | refine bD_ ?_ | refine bA_ ?_ _)); exact BK311.out) NB311_0.out (by simp)); have n1 := aM_ (KeepBut.trans (gK_ HK.out) hk (.inl rfl)); have n2 := aM_ (hb); have n3 := aM_ (hi); clear BK311; clear HK; clear HB; clear HI0; have BK311 := n0; have HK := n1; have HB := n2; have HI0 := n3; clear n0 n1 n2 n3) | ((with_reducible refine gate_callee (f := 77) rfl ?_); refine gL_ (some 9) Tryd.func77 #[.pointer (some ⟨g, 0, none⟩), .int .i64 4] ?_; (with_reducible refine (spec_l1Once.calls g s0_0 t313 t314 4 t315 t316 t317 w0 _ ?side1 ?side2 A3.out).mono ?_); (case side1 => exact gI97_ HI0.out); (case side2 => exact gB97_ HB.out); rintro e w6 ⟨rfl, hi, hb, hk⟩; refine ⟨_, rfl, ?_⟩; have n0 := aM_ (KeepBut.blk hk (g' := gb311) (o := .cells #[.int .i64 0, .slice none 0 0, .bool false] 33 (0, 0)) (by (with_reducible repeat (first | refine bN_ ?_ _ | refine bD_ ?_ | refine bA_ ?_ _)); exact BK311.out) NB311_0.out (by simp)); have n1 := aM_ (KeepBut.trans (gK_ HK.out) hk (.inl rfl)); have n2 := aM_ (hb); have n3 := aM_ (hi); clear BK311; clear HK; clear HB; clear HI0; have BK311 := n0; have HK := n1; have HB := n2; have HI0 := n3; clear n0 n1 n2 n3) | ((with_reducible refine gate_dst (N := 3) rfl ?_); refine bX_ 3 (cs := #[.int .i64 0, .slice none 0 0, .bool false]) (t := 33) ?_; intro gb318 hg w7 hbox hb; have n0 := aM_ (IsS97.below (gI97_ HI0.out) hb); have n1 := aM_ (nB_ BK311.out hb); have n2 := aM_ (KeepBut.trans (gK_ HK.out) (KeepBut.of_below hb g none) (.inl rfl)); have n3 := aM_ (below_step (gB97_ HB.out) hb); have n4 := aM_ (hbox); have n5 := aM_ ((by rw [hg]; exact (keep_size (w := w) (g := g) (row := none) (gK_ HK.out)) : w.heap.size ≤ gb318)); have n6 := aM_ ((Nat.le_trans HW0.out (by rw [hg]; exact (keep_size (w := w) (g := g) (row := none) (gK_ HK.out)) : w.heap.size ≤ gb318) : w0.heap.size ≤ gb318)); have n7 := aM_ (nL_ hg BK311.out); have n8 := aM_ (nG_ hg BK311.out); have n9 := aM_ ((by rw [hg]; exact Nat.ne_of_lt (IsS97.lt (show IsS97 w0 _ g s0_0 t316 t317 from gI97_ HI0.out)) : g ≠ gb318)); have n10 := aM_ ((by rw [hg]; exact Nat.ne_of_gt (IsS97.lt (show IsS97 w0 _ g s0_0 t316 t317 from gI97_ HI0.out)) : gb318 ≠ g)); clear HI0; clear BK311; clear HK; clear HB; have HI0 := n0; have BK311 := n1; have HK := n2; have HB := n3; have BK318 := n4; have GW318 := n5; have GE318 := n6; have NB311_318 := n7; have NB318_311 := n8; have NB0_318 := n9; have NB318_0 := n10; clear n0 n1 n2 n3 n4 n5 n6 n7 n8 n9 n10; clear hb hbox hg; have hnb8 := NB318_311.out; have hnc8 := NB311_318.out; have hnb9 := NB318_0.out; have hnc9 := NB0_318.out; obtain ⟨hcz10_0, hcz10_1, hcz10_2, hfz10_0, hfz10_1, hfz10_2⟩ := bR3_ BK318.out))
 go_loopg [4] k (fun kq v4 w' => ∃ (x4_1 : Int) (x1001_1 : Int) (x1002_1 : Int) (x319001_1 : List Int) (u319001 : Value), v4 = .int .i64 x4_1 ∧ Aside0 (spec_l3Draw.l0 kq x4_1 s0_0 x1001_1 x1002_1 (wrap64 (1 + t312)) x319001_1 t315 = some (r1, r2, r3, r4, r5)) ∧ Aside0 (kq ≤ k) ∧ Aside0 (Kd.R (Kd.int .i64) 3 w' w.heap.size (fun _ => True) u319001 x319001_1) ∧ Aside0 (w'.heap[gb311]? = some (.cells #[.int .i64 0, (.slice none 0 0), .bool false] 33 (0, 0))) ∧ Aside0 (w'.heap[gb318]? = some (.cells #[.int .i64 (wrap64 (1 + t312)), u319001, .bool t315] 33 (0, 0))) ∧ Aside0 (IsS97 w0 w' g s0_0 x1001_1 x1002_1) ∧ Aside0 (KeepBut w w' g none) ∧ Aside0 (Below w0.heap.size w0 w'))
 case atStart => exact ⟨(0), (t316), (t317), (([] : List Int)), (.slice none 0 0), (by first | rfl | (simp; done) | (simp [*]; done)), H', ⟨Nat.le_refl _⟩, ⟨by first | exact Kd.R_nil _ _ _ _ _ | exact Kd.N_nil _ _ _ _ _ | exact Kd.V_nil _ _ _ _ _ | exact Kd.Q_nil _ _ _ _ _ | exact Kd.S_nil _ _ _ _ _⟩, ⟨by (with_reducible repeat (first | refine bN_ ?_ _ | refine bD_ ?_ | refine bA_ ?_ _)); refine blk_far ?_ NB311_318.out _; (with_reducible repeat (first | refine bN_ ?_ _ | refine bD_ ?_ | refine bA_ ?_ _)); refine blk_far ?_ NB311_318.out _; (with_reducible repeat (first | refine bN_ ?_ _ | refine bD_ ?_ | refine bA_ ?_ _)); refine blk_far ?_ NB311_318.out _; (with_reducible repeat (first | refine bN_ ?_ _ | refine bD_ ?_ | refine bA_ ?_ _)); exact BK311.out⟩, ⟨by (with_reducible repeat (first | refine bN_ ?_ _ | refine bD_ ?_ | refine bA_ ?_ _)); refine blk_put (cs := #[.int .i64 (wrap64 (1 + t312)), .slice none 0 0, .bool false]) ?_ 2 _ rfl; (with_reducible repeat (first | refine bN_ ?_ _ | refine bD_ ?_ | refine bA_ ?_ _)); refine blk_put (cs := #[.int .i64 (wrap64 (1 + t312)), .slice none 0 0, .bool false]) ?_ 1 _ rfl; (with_reducible repeat (first | refine bN_ ?_ _ | refine bD_ ?_ | refine bA_ ?_ _)); refine blk_put (cs := #[.int .i64 0, .slice none 0 0, .bool false]) ?_ 0 _ rfl; (with_reducible repeat (first | refine bN_ ?_ _ | refine bD_ ?_ | refine bA_ ?_ _)); exact BK318.out⟩, ⟨gI97_ HI0.out⟩, ⟨gK_ HK.out⟩, ⟨gB97_ HB.out⟩⟩
 case round =>
  clear H'
  try clear p2
  try clear c3
  try clear p6
  try clear c7
  try clear c8
  try clear c9
  try clear hcz10_0 hcz10_1 hcz10_2 hfz10_0 hfz10_1 hfz10_2
  obtain ⟨x4_1, x1001_1, x1002_1, x319001_1, u319001, rfl, HA, HK1, HO_319001, BK311, BK318, HI0, HK, HB⟩ := hrel
  cases gk with
  | zero => exact absurd HA.out (by simp [spec_l3Draw.l0])
  | succ k1 =>
   have H := HA.out
   clear HA
   simp only [spec_l3Draw.l0] at H
   replace H := Option.bind_eq_some_iff.mp H
   obtain ⟨⟨t319, t320, t321⟩, A110, H⟩ := H
   replace H : (if x4_1 < t319 then ((spec_l1Below.f s0_0 t320 t321 20).bind fun bt322 => (if x319001_1.length < 17592186044416 then (spec_l3Draw.l0 k1 (wrap64 (x4_1 + 1)) s0_0 bt322.2.1 bt322.2.2 (wrap64 (1 + t312)) (x319001_1 ++ [wrap64 (bt322.1 - 3)]) t315) else (none))) else ((spec_l1Below.f s0_0 t320 t321 12).bind fun bt328 => (if bt328.1 = 0 then ((spec_l1PickInt.f s0_0 bt328.2.1 bt328.2.2 (([0, 5, (-1)] : List Int))).bind fun bt334 => (some (bt334.1, x319001_1, t315, bt334.2.1, bt334.2.2))) else (if bt328.1 = 1 then ((some (([1, 2, 3, 4] : List Int) : List Int)).bind fun y337 => (if x319001_1.length + y337.length < 17592186044416 then (some ((wrap64 (1 + t312)), (x319001_1 ++ y337), t315, bt328.2.1, bt328.2.2)) else (none))) else (some ((wrap64 (1 + t312)), x319001_1, t315, bt328.2.1, bt328.2.2)))))) = some (r1, r2, r3, r4, r5) := H
   have A11 := aM_ A110
   clear A110
   by_cases c12 : x4_1 < t319
   ·rw [if_pos c12] at H
    have c12b0 : decide (x4_1 < t319) = true := decide_eq_true c12
    clear c12
    replace H := Option.bind_eq_some_iff.mp H
    obtain ⟨⟨t322, t323, t324⟩, A130, H⟩ := H
    replace H : (if x319001_1.length < 17592186044416 then (spec_l3Draw.l0 k1 (wrap64 (x4_1 + 1)) s0_0 t323 t324 (wrap64 (1 + t312)) (x319001_1 ++ [wrap64 (t322 - 3)]) t315) else (none)) = some (r1, r2, r3, r4, r5) := H
    have A13 := aM_ A130
    clear A130
    by_cases c14 : x319001_1.length < 17592186044416
    ·rw [if_pos c14] at H
     have LMc14 := aM_ c14
     clear c14
     obtain ⟨y325, hy325⟩ : ∃ y_ : List Int, y_ = (x319001_1 ++ [wrap64 (t322 - 3)]) := ⟨_, rfl⟩
     replace H : (spec_l3Draw.l0 k1 (wrap64 (x4_1 + 1)) s0_0 t323 t324 (wrap64 (1 + t312)) y325 t315) = some (r1, r2, r3, r4, r5) := by first | (rw [hy325]; with_reducible exact H) | (have H2_ := (Option.bind_some _ _).symm.trans H; rw [hy325]; with_reducible exact H2_) | (have H2_ := (Option.bind_some _ _).symm.trans H; with_reducible exact H2_) | with_reducible exact H | (rw [hy325]; exact H) | exact H
     have Ny325 := aM_ hy325
     clear hy325
     have H' := aM_ H
     clear H
     have hnb15 := NB318_311.out
     have hnc15 := NB311_318.out
     have hnb16 := NB318_0.out
     have hnc16 := NB0_318.out
     obtain ⟨hcz17_0, hcz17_1, hcz17_2, hfz17_0, hfz17_1, hfz17_2⟩ := bR3_ BK318.out
     try go_wp2_with (first | ((with_reducible refine gate_callee (f := 36) rfl ?_); refine gL_ (some 16) Tryd.func36 #[.pointer (some ⟨g, 0, none⟩), .int .i64 (wrap64 ((wrap64 (1 + t312)) + 1))] ?_; (with_reducible refine (spec_l1Below.calls g s0_0 x1001_1 x1002_1 (wrap64 ((wrap64 (1 + t312)) + 1)) t319 t320 t321 w0 _ ?side1 ?side2 A11.out).mono ?_); (case side1 => exact gI97_ HI0.out); (case side2 => exact gB97_ HB.out); rintro e w18 ⟨rfl, hi, hb, hk⟩; refine ⟨_, rfl, ?_⟩; have n0 := aM_ (Kd.R_mono (Kd.R_keep (IsS97.apart (show IsS97 w0 _ g s0_0 x1001_1 x1002_1 from gI97_ HI0.out) (by (with_reducible repeat (first | apply rA_ | apply rN_ | apply rD_)); exact HO_319001.out) (by decide)) hk (fun _ h => h.2)) (fun _ h => h.1)); have n1 := aM_ (KeepBut.blk hk (g' := gb311) (o := .cells #[.int .i64 0, .slice none 0 0, .bool false] 33 (0, 0)) (by (with_reducible repeat (first | refine bN_ ?_ _ | refine bD_ ?_ | refine bA_ ?_ _)); exact BK311.out) NB311_0.out (by simp)); have n2 := aM_ (KeepBut.blk hk (g' := gb318) (o := .cells #[.int .i64 (wrap64 (1 + t312)), u319001, .bool t315] 33 (0, 0)) (by (with_reducible repeat (first | refine bN_ ?_ _ | refine bD_ ?_ | refine bA_ ?_ _)); exact BK318.out) NB318_0.out (by simp)); have n3 := aM_ (KeepBut.trans (gK_ HK.out) hk (.inl rfl)); have n4 := aM_ (hb); have n5 := aM_ (hi); clear HO_319001; clear BK311; clear BK318; clear HK; clear HB; clear HI0; have HO_319001 := n0; have BK311 := n1; have BK318 := n2; have HK := n3; have HB := n4; have HI0 := n5; clear n0 n1 n2 n3 n4 n5))
     have n0 := aM_ (Kd.R_drew HO_319001.out)
     have n1 := aM_ (blk_drew BK311.out)
     have n2 := aM_ (blk_drew BK318.out)
     have n3 := aM_ (IsS97.drew HI0.out)
     have n4 := aM_ (keep_drew HK.out)
     have n5 := aM_ (below_drew1 HB.out)
     clear HO_319001
     clear BK311
     clear BK318
     clear HI0
     clear HK
     clear HB
     have HO_319001 := n0
     have BK311 := n1
     have BK318 := n2
     have HI0 := n3
     have HK := n4
     have HB := n5
     clear n0 n1 n2 n3 n4 n5
     refine start_ (n := 9) (S := fun w' => w'.cell? ⟨gb318, 0, none⟩ = some (.int .i64 (wrap64 (1 + t312))) ∧ w'.cell? ⟨gb318, 1, none⟩ = some (u319001) ∧ w'.cell? ⟨gb318, 2, none⟩ = some (.bool t315)) (ds := [8]) #[false, false, false, false, false, false, false, false, false] (by kernel_rfl) rfl rfl (bC3_ BK318.out) (fun hHeld => ?_); refine with_tabW spec_l3Draw.tab5 spec_l3Draw.bits5 (fun HT_ HW_ => ?_)
     generalize w18.drew = w19 at HO_319001 BK311 BK318 HI0 HK HB hHeld ⊢
     refine pU_ 0 (some 20) (mk_ 9 1) ?_
     refine pU_ 2 (some 22) (mk_ 9 5) ?_
     refine tK3_ 1 (some 21) (mk_ 9 7) ?_
     refine oN_ 3 (some 23) (mk_ 9 15) (fun K hK => ?_)
     refine gO_ Tryd.func36 #[.pointer (some ⟨g, 0, none⟩), .int .i64 20] ?_
     with_reducible refine (spec_l1Below.calls g s0_0 t320 t321 20 t322 t323 t324 w0 _ ?side1 ?side2 A13.out).mono ?_
     (case side1 => exact gI97_ HI0.out)
     (case side2 => exact gB97_ HB.out)
     rintro e w20 ⟨rfl, hi, hb, hk⟩
     refine ⟨_, rfl, ?_⟩
     have n0 := aM_ (Kd.R_mono (Kd.R_keep (IsS97.apart (show IsS97 w0 _ g s0_0 t320 t321 from gI97_ HI0.out) (by (with_reducible repeat (first | apply rA_ | apply rN_ | apply rD_)); exact HO_319001.out) (by decide)) hk (fun _ h => h.2)) (fun _ h => h.1))
     have n1 := aM_ (KeepBut.blk hk (g' := gb311) (o := .cells #[.int .i64 0, .slice none 0 0, .bool false] 33 (0, 0)) (by (with_reducible repeat (first | refine bN_ ?_ _ | refine bD_ ?_ | refine bA_ ?_ _)); exact BK311.out) NB311_0.out (by simp))
     have n2 := aM_ (KeepBut.blk hk (g' := gb318) (o := .cells #[.int .i64 (wrap64 (1 + t312)), u319001, .bool t315] 33 (0, 0)) (by (with_reducible repeat (first | refine bN_ ?_ _ | refine bD_ ?_ | refine bA_ ?_ _)); exact BK318.out) NB318_0.out (by simp))
     have n3 := aM_ (KeepBut.trans (gK_ HK.out) hk (.inl rfl))
     have n4 := aM_ (hb)
     have n5 := aM_ (hi)
     clear HO_319001
     clear BK311
     clear BK318
     clear HK
     clear HB
     clear HI0
     have HO_319001 := n0
     have BK311 := n1
     have BK318 := n2
     have HK := n3
     have HB := n4
     have HI0 := n5
     clear n0 n1 n2 n3 n4 n5
     (try clear hb)
     (try clear hb2)
     (try clear hk)
     (try clear hi)
     refine hK.out _ _ (bC3_ BK318.out) (fun hHeld => ?_)
     clear hK K
     refine norm_ (a' := ?_) ?_ ?_
     rotate_left
     ·show Act.put _ (some 23) _ = _
      simp only [pt_, pn_, sI_, s0_, s1_, i64_w, i32_w]
      rfl
     refine pU_ 4 (some 24) (mk_ 9 31) ?_
     refine oN_ 5 (some 25) (mk_ 9 63) (fun K hK => ?_)
     refine value_ (w1 := ?_) (v := ?_) (by rfl) rfl ?_ ?_
     rotate_left 2
     ·go_simp
      constructor
      ·rfl
      ·rfl
     refine hK.out _ _ ⟨(blk_cell (blk_alloc BK318.out _) 0).trans rfl, (blk_cell (blk_alloc BK318.out _) 1).trans rfl, (blk_cell (blk_alloc BK318.out _) 2).trans rfl⟩ (fun hHeld => ?_)
     clear hK K
     refine norm_ (a' := ?_) ?_ ?_
     rotate_left
     ·show Act.put _ (some 25) _ = _
      simp only [pt_, pn_, sI_, s0_, s1_, i64_w, i32_w]
      rfl
     refine oN_ 6 (some 26) (mk_ 9 127) (fun K hK => ?_)
     refine Kd.R_append_step (Kd.int .i64) w.heap.size (by rfl) (.tmp 21) (.tmp 25) 31 3 (.int .i64 0) 8 rfl Tryd.underlying31 info3 rfl (by decide) (by omega) u319001 x319001_1 (wrap64 (t322 - 3)) [.int .i64 (wrap64 (t322 - 3))] (fun _ => True) (fun _ => False) rfl rfl ?aP (fun _ hk => hk.elim) ?aF ?aO (Below.refl _ _) ?aS ?aL ?_
     (case aP => exact rfl)
     (case aF => exact (fun _ _ => trivial))
     (case aO => exact (by (with_reducible repeat (first | apply rA_ | apply rN_ | apply rD_)); exact HO_319001.out))
     (case aS => exact (keep_size (w := w) (g := g) (row := none) (gK_ HK.out)))
     (case aL => have := LMc14.out; omega)
     intro v326 w21 ho hb hg hat
     rw [← Ny325.out] at ho
     have n0 := aM_ (blk_grown (g := gb311) (o := .cells #[.int .i64 0, .slice none 0 0, .bool false] 33 (0, 0)) (by (with_reducible repeat (first | refine bN_ ?_ _ | refine bD_ ?_ | refine bA_ ?_ _)); exact BK311.out) hg (Kd.R_ne HO_319001.out BK311.out (by decide)))
     have n1 := aM_ (blk_grown (g := gb318) (o := .cells #[.int .i64 (wrap64 (1 + t312)), u319001, .bool t315] 33 (0, 0)) (by (with_reducible repeat (first | refine bN_ ?_ _ | refine bD_ ?_ | refine bA_ ?_ _)); exact BK318.out) hg (Kd.R_ne HO_319001.out BK318.out (by decide)))
     have n2 := aM_ (IsS97.grown (gI97_ HI0.out) hg (IsS97.own_ne HI0.out HO_319001.out (by decide)))
     have n3 := aM_ (below_weaken (gB97_ HB.out) HL.out hb)
     have n4 := aM_ (KeepBut.trans (gK_ HK.out) (KeepBut.of_grown hg g) (Kd.R_base2 HO_319001.out))
     have n5 := aM_ (ho)
     clear BK311
     clear BK318
     clear HI0
     clear HB
     clear HK
     clear HO_319001
     have BK311 := n0
     have BK318 := n1
     have HI0 := n2
     have HB := n3
     have HK := n4
     have HO327 := n5
     clear n0 n1 n2 n3 n4 n5
     clear ho hb hg hat
     obtain ⟨Ao22, co22, eo22⟩ := Kd.R_slice HO327.out
     (first | subst eo22 | (injection eo22 with f1_ f2_ f3_; have f4_ := f1_.symm; have f5_ := f3_.symm; clear f1_ f2_ f3_; subst f4_; subst f5_))
     refine hK.out _ _ (bC3_ BK318.out) (fun hHeld => ?_)
     clear hK K
     refine norm_ (a' := ?_) ?_ ?_
     rotate_left
     ·show Act.put _ (some 26) _ = _
      simp only [pt_, pn_, sI_, s0_, s1_, i64_w, i32_w]
      rfl
     refine pU_ 7 (some 27) (mk_ 9 255) ?_
     refine last_ (i := 8) (N := none) #[true, true, true, true, true, true, true, true, true] rfl rfl (one_of HT_.out (by kernel_rfl)) (by decide) (fun K hK => ?_)
     have hs23 : w21.cell? ⟨gb318, 1, none⟩ = some (u319001) := (blk_cell BK318.out 1).trans rfl
     have hfs23 := blk_frozen BK318.out 1
     have hns23_0 := NB311_318.out
     have hms23_0 := NB318_311.out
     refine skip_ (w1 := ?_) (by rfl) rfl ?_ ?_
     rotate_left
     ·go_simp
      rfl
     refine hK.out _ _ ?_
     clear hK K
     refine done_ (done_of HT_.out (by kernel_rfl)) ?_
     try go_wp2
     go_roundg k1
     case measure => have := HK1.out; omega
     case rel => exact ⟨(wrap64 (x4_1 + 1)), (t323), (t324), (y325), (.slice Ao22 y325.length co22), (by first | rfl | (simp; done) | (simp [*]; done)), H', ⟨by have := HK1.out; omega⟩, ⟨by (with_reducible repeat (first | apply rA_ | apply rN_ | apply rD_)); exact Kd.R_mono (Kd.R_far (p := ⟨gb318, 1, none⟩) (Kd.R_types HO327.out BK318.out (by decide)) (fun _ hk => hk.2) (.slice Ao22 y325.length co22)) (fun _ hk => trivial)⟩, ⟨by (with_reducible repeat (first | refine bN_ ?_ _ | refine bD_ ?_ | refine bA_ ?_ _)); refine blk_far ?_ NB311_318.out _; (with_reducible repeat (first | refine bN_ ?_ _ | refine bD_ ?_ | refine bA_ ?_ _)); exact BK311.out⟩, ⟨by (with_reducible repeat (first | refine bN_ ?_ _ | refine bD_ ?_ | refine bA_ ?_ _)); refine blk_put (cs := #[.int .i64 (wrap64 (1 + t312)), u319001, .bool t315]) ?_ 1 _ rfl; (with_reducible repeat (first | refine bN_ ?_ _ | refine bD_ ?_ | refine bA_ ?_ _)); exact BK318.out⟩, ⟨gI97_ HI0.out⟩, ⟨gK_ HK.out⟩, ⟨gB97_ HB.out⟩⟩
    ·rw [if_neg c14] at H
     exact absurd H (by simp)
   ·rw [if_neg c12] at H
    have c12b0 : decide (x4_1 < t319) = false := decide_eq_false c12
    clear c12
    replace H := Option.bind_eq_some_iff.mp H
    obtain ⟨⟨t328, t329, t330⟩, A240, H⟩ := H
    replace H : (if t328 = 0 then ((spec_l1PickInt.f s0_0 t329 t330 (([0, 5, (-1)] : List Int))).bind fun bt334 => (some (bt334.1, x319001_1, t315, bt334.2.1, bt334.2.2))) else (if t328 = 1 then ((some (([1, 2, 3, 4] : List Int) : List Int)).bind fun y337 => (if x319001_1.length + y337.length < 17592186044416 then (some ((wrap64 (1 + t312)), (x319001_1 ++ y337), t315, t329, t330)) else (none))) else (some ((wrap64 (1 + t312)), x319001_1, t315, t329, t330)))) = some (r1, r2, r3, r4, r5) := H
    have A24 := aM_ A240
    clear A240
    by_cases c25 : t328 = 0
    ·rw [if_pos c25] at H
     have c25b0 : (t328 == 0) = true := beq_iff_eq.mpr c25
     have c25b1 : (t328 != 0) = false := bne_eq_false_iff_eq.mpr c25
     clear c25
     obtain ⟨y331, hy331⟩ : ∃ y_ : List Int, y_ = (([0, 5, (-1)] : List Int)) := ⟨_, rfl⟩
     replace H : ((spec_l1PickInt.f s0_0 t329 t330 y331).bind fun bt334 => (some (bt334.1, x319001_1, t315, bt334.2.1, bt334.2.2))) = some (r1, r2, r3, r4, r5) := by first | (rw [hy331]; with_reducible exact H) | (have H2_ := (Option.bind_some _ _).symm.trans H; rw [hy331]; with_reducible exact H2_) | (have H2_ := (Option.bind_some _ _).symm.trans H; with_reducible exact H2_) | with_reducible exact H | (rw [hy331]; exact H) | exact H
     have Ny331 := aM_ hy331
     clear hy331
     replace H := Option.bind_eq_some_iff.mp H
     obtain ⟨⟨t334, t335, t336⟩, A260, H⟩ := H
     replace H : (some (t334, x319001_1, t315, t335, t336)) = some (r1, r2, r3, r4, r5) := H
     have A26 := aM_ A260
     clear A260
     simp only [Option.some.injEq, Prod.mk.injEq] at H
     obtain ⟨rfl, rfl, rfl, rfl, rfl⟩ := H
     have hnb27 := NB318_311.out
     have hnc27 := NB311_318.out
     have hnb28 := NB318_0.out
     have hnc28 := NB0_318.out
     obtain ⟨hcz29_0, hcz29_1, hcz29_2, hfz29_0, hfz29_1, hfz29_2⟩ := bR3_ BK318.out
     go_wp2_with (first | ((with_reducible refine gate_callee (f := 36) rfl ?_); refine gL_ (some 16) Tryd.func36 #[.pointer (some ⟨g, 0, none⟩), .int .i64 (wrap64 ((wrap64 (1 + t312)) + 1))] ?_; (with_reducible refine (spec_l1Below.calls g s0_0 x1001_1 x1002_1 (wrap64 ((wrap64 (1 + t312)) + 1)) t319 t320 t321 w0 _ ?side1 ?side2 A11.out).mono ?_); (case side1 => exact gI97_ HI0.out); (case side2 => exact gB97_ HB.out); rintro e w30 ⟨rfl, hi, hb, hk⟩; refine ⟨_, rfl, ?_⟩; have n0 := aM_ (Kd.R_mono (Kd.R_keep (IsS97.apart (show IsS97 w0 _ g s0_0 x1001_1 x1002_1 from gI97_ HI0.out) (by (with_reducible repeat (first | apply rA_ | apply rN_ | apply rD_)); exact HO_319001.out) (by decide)) hk (fun _ h => h.2)) (fun _ h => h.1)); have n1 := aM_ (KeepBut.blk hk (g' := gb311) (o := .cells #[.int .i64 0, .slice none 0 0, .bool false] 33 (0, 0)) (by (with_reducible repeat (first | refine bN_ ?_ _ | refine bD_ ?_ | refine bA_ ?_ _)); exact BK311.out) NB311_0.out (by simp)); have n2 := aM_ (KeepBut.blk hk (g' := gb318) (o := .cells #[.int .i64 (wrap64 (1 + t312)), u319001, .bool t315] 33 (0, 0)) (by (with_reducible repeat (first | refine bN_ ?_ _ | refine bD_ ?_ | refine bA_ ?_ _)); exact BK318.out) NB318_0.out (by simp)); have n3 := aM_ (KeepBut.trans (gK_ HK.out) hk (.inl rfl)); have n4 := aM_ (hb); have n5 := aM_ (hi); clear HO_319001; clear BK311; clear BK318; clear HK; clear HB; clear HI0; have HO_319001 := n0; have BK311 := n1; have BK318 := n2; have HK := n3; have HB := n4; have HI0 := n5; clear n0 n1 n2 n3 n4 n5) | ((with_reducible refine gate_callee (f := 36) rfl ?_); refine gL_ (some 29) Tryd.func36 #[.pointer (some ⟨g, 0, none⟩), .int .i64 12] ?_; (with_reducible refine (spec_l1Below.calls g s0_0 t320 t321 12 t328 t329 t330 w0 _ ?side1 ?side2 A24.out).mono ?_); (case side1 => exact gI97_ HI0.out); (case side2 => exact gB97_ HB.out); rintro e w31 ⟨rfl, hi, hb, hk⟩; refine ⟨_, rfl, ?_⟩; have n0 := aM_ (Kd.R_mono (Kd.R_keep (IsS97.apart (show IsS97 w0 _ g s0_0 t320 t321 from gI97_ HI0.out) (by (with_reducible repeat (first | apply rA_ | apply rN_ | apply rD_)); exact HO_319001.out) (by decide)) hk (fun _ h => h.2)) (fun _ h => h.1)); have n1 := aM_ (KeepBut.blk hk (g' := gb311) (o := .cells #[.int .i64 0, .slice none 0 0, .bool false] 33 (0, 0)) (by (with_reducible repeat (first | refine bN_ ?_ _ | refine bD_ ?_ | refine bA_ ?_ _)); exact BK311.out) NB311_0.out (by simp)); have n2 := aM_ (KeepBut.blk hk (g' := gb318) (o := .cells #[.int .i64 (wrap64 (1 + t312)), u319001, .bool t315] 33 (0, 0)) (by (with_reducible repeat (first | refine bN_ ?_ _ | refine bD_ ?_ | refine bA_ ?_ _)); exact BK318.out) NB318_0.out (by simp)); have n3 := aM_ (KeepBut.trans (gK_ HK.out) hk (.inl rfl)); have n4 := aM_ (hb); have n5 := aM_ (hi); clear HO_319001; clear BK311; clear BK318; clear HK; clear HB; clear HI0; have HO_319001 := n0; have BK311 := n1; have BK318 := n2; have HK := n3; have HB := n4; have HI0 := n5; clear n0 n1 n2 n3 n4 n5) | ((with_reducible refine gate_dst (N := 33) rfl ?_); refine Kd.R_lit (Kd.int .i64) _ 3 ?hg (N := 33) ?hd (xs := ([0, 5, (-1)] : List Int)) (inner := [.int .i64 0, .int .i64 5, .int .i64 (-1)]) (ok := fun _ => True) (okp := fun _ => True) ?hr ?hp (fun _ hk => hk) trivial (Below.refl _ _) (Nat.le_refl _) (by simp) ?_; (case hd => rfl); (case hg => rfl); (case hr => first | (go_simp; done) | (go_simp; rfl)); (case hp => exact (Reps.one (show Kd.M (Kd.int .i64) _ _ _ 0 [.int .i64 0] from rfl) (Reps.one (show Kd.M (Kd.int .i64) _ _ _ 5 [.int .i64 5] from rfl) (Reps.one (show Kd.M (Kd.int .i64) _ _ _ (-1) [.int .i64 (-1)] from rfl) (Reps.none _ _))))); intro v332 w32 ho33 hb hg_ hnew_; clear hg_ hnew_; (first | rw [← Ny331.out] at ho33 | (simp only [Int.reduceToNat] at ho33; rw [← Ny331.out] at ho33)); have n0 := aM_ (Kd.R_elder' (by (with_reducible repeat (first | apply rA_ | apply rN_ | apply rD_)); exact HO_319001.out) (Kd.R_base ho33) hb); have n1 := aM_ (Kd.R_lower (Kd.R_new' ho33 (Kd.R_lt (by (with_reducible repeat (first | apply rA_ | apply rN_ | apply rD_)); exact HO_319001.out))) (keep_size (w := w) (g := g) (row := none) (gK_ HK.out))); have n2 := aM_ (nB_ BK311.out hb); have n3 := aM_ (nB_ BK318.out hb); have n4 := aM_ (IsS97.below (gI97_ HI0.out) hb); have n5 := aM_ (KeepBut.trans (gK_ HK.out) (KeepBut.of_below hb g none) (.inl rfl)); have n6 := aM_ (below_step (gB97_ HB.out) hb); clear HO_319001; clear BK311; clear BK318; clear HI0; clear HK; clear HB; have HO_319001 := n0; have HO333 := n1; have BK311 := n2; have BK318 := n3; have HI0 := n4; have HK := n5; have HB := n6; clear n0 n1 n2 n3 n4 n5 n6; clear hb ho33; obtain ⟨Ao34, co34, eo34⟩ := Kd.R_slice HO333.out; subst eo34) | ((with_reducible refine gate_callee (f := 37) rfl ?_); refine gL_ (some 34) Tryd.func37 #[.pointer (some ⟨g, 0, none⟩), .slice Ao34 y331.length co34] ?_; (with_reducible refine (spec_l1PickInt.calls g s0_0 t329 t330 _ _ y331 t334 t335 t336 w0 _ ?side1 ?side2 ?side3 ?side4 ?side5 A26.out).mono ?_); (case side1 => exact gI97_ HI0.out); (case side2 => exact gB97_ HB.out); (case side3 => exact cS_ (Kd.R_reads' HO333.out).2.2); (case side4 => exact (Kd.R_reads' HO333.out).2.1); (case side5 => exact far_slice (IsS97.own_ne HI0.out HO333.out (by decide))); rintro e w35 ⟨rfl, hi, hb, hk⟩; refine ⟨_, rfl, ?_⟩; have n0 := aM_ (Kd.R_mono (Kd.R_keep (IsS97.apart (show IsS97 w0 _ g s0_0 t329 t330 from gI97_ HI0.out) (by (with_reducible repeat (first | apply rA_ | apply rN_ | apply rD_)); exact HO_319001.out) (by decide)) hk (fun _ h => h.2)) (fun _ h => h.1)); have n1 := aM_ (KeepBut.blk hk (g' := gb311) (o := .cells #[.int .i64 0, .slice none 0 0, .bool false] 33 (0, 0)) (by (with_reducible repeat (first | refine bN_ ?_ _ | refine bD_ ?_ | refine bA_ ?_ _)); exact BK311.out) NB311_0.out (by simp)); have n2 := aM_ (KeepBut.blk hk (g' := gb318) (o := .cells #[.int .i64 (wrap64 (1 + t312)), u319001, .bool t315] 33 (0, 0)) (by (with_reducible repeat (first | refine bN_ ?_ _ | refine bD_ ?_ | refine bA_ ?_ _)); exact BK318.out) NB318_0.out (by simp)); have n3 := aM_ (Kd.R_mono (Kd.R_keep (IsS97.apart (show IsS97 w0 _ g s0_0 t329 t330 from gI97_ HI0.out) (by (with_reducible repeat (first | apply rA_ | apply rN_ | apply rD_)); exact HO333.out) (by decide)) hk (fun _ h => h.2)) (fun _ h => h.1)); have n4 := aM_ (KeepBut.trans (gK_ HK.out) hk (.inl rfl)); have n5 := aM_ (hb); have n6 := aM_ (hi); clear HO_319001; clear BK311; clear BK318; clear HO333; clear HK; clear HB; clear HI0; have HO_319001 := n0; have BK311 := n1; have BK318 := n2; have HO333 := n3; have HK := n4; have HB := n5; have HI0 := n6; clear n0 n1 n2 n3 n4 n5 n6; obtain ⟨hcz36_0, hcz36_1, hcz36_2, hfz36_0, hfz36_1, hfz36_2⟩ := bR3_ BK318.out; have hnb37 := NB311_0.out; have hnc37 := NB0_311.out; obtain ⟨hcz38_0, hcz38_1, hcz38_2, hfz38_0, hfz38_1, hfz38_2⟩ := bR3_ BK311.out; obtain ⟨Ao39, co39, eo39⟩ := Kd.R_slice HO_319001.out; subst eo39))
     refine bodyPost_ret (results_cell_row rfl _ _ gb311 33 #[.int .i64 t334, .slice Ao39 x319001_1.length co39, .bool t315] (0, 0) _ rfl (by (with_reducible repeat (first | refine bN_ ?_ _ | refine bD_ ?_ | refine bA_ ?_ _)); refine blk_put (cs := #[.int .i64 t334, .slice Ao39 x319001_1.length co39, .bool false]) ?_ 2 _ rfl; (with_reducible repeat (first | refine bN_ ?_ _ | refine bD_ ?_ | refine bA_ ?_ _)); refine blk_put (cs := #[.int .i64 t334, .slice none 0 0, .bool false]) ?_ 1 _ rfl; (with_reducible repeat (first | refine bN_ ?_ _ | refine bD_ ?_ | refine bA_ ?_ _)); refine blk_put (cs := #[.int .i64 0, .slice none 0 0, .bool false]) ?_ 0 _ rfl; (with_reducible repeat (first | refine bN_ ?_ _ | refine bD_ ?_ | refine bA_ ?_ _)); refine blk_far ?_ NB311_318.out _; (with_reducible repeat (first | refine bN_ ?_ _ | refine bD_ ?_ | refine bA_ ?_ _)); exact BK311.out) Tryd.underlying33 rfl (by kernel_rfl)) rfl ?_
     exact ⟨_, fR_, by (with_reducible repeat (first | apply rA_ | apply rN_ | apply rD_)); exact Kd.R_mono (Kd.R_far (p := ⟨gb311, 2, none⟩) (Kd.R_far (p := ⟨gb311, 1, none⟩) (Kd.R_far (p := ⟨gb311, 0, none⟩) (Kd.R_far (p := ⟨gb318, 0, none⟩) (Kd.R_types (Kd.R_types HO_319001.out BK318.out (by decide)) BK311.out (by decide)) (fun _ hk => hk.1.2) (.int .i64 t334)) (fun _ hk => hk.2) (.int .i64 t334)) (fun _ hk => hk.2) (.slice Ao39 x319001_1.length co39)) (fun _ hk => hk.2) (.bool t315)) (fun _ hk => trivial), gI97_ HI0.out, gB97_ HB.out, gK_ HK.out⟩
    ·rw [if_neg c25] at H
     have c25b0 : (t328 == 0) = false := beq_eq_false_iff_ne.mpr c25
     have c25b1 : (t328 != 0) = true := bne_iff_ne.mpr c25
     by_cases c40 : t328 = 1
     ·rw [if_pos c40] at H
      have c40b0 : (t328 == 1) = true := beq_iff_eq.mpr c40
      have c40b1 : (t328 != 1) = false := bne_eq_false_iff_eq.mpr c40
      clear c40
      obtain ⟨y337, hy337⟩ : ∃ y_ : List Int, y_ = (([1, 2, 3, 4] : List Int)) := ⟨_, rfl⟩
      replace H : (if x319001_1.length + y337.length < 17592186044416 then (some ((wrap64 (1 + t312)), (x319001_1 ++ y337), t315, t329, t330)) else (none)) = some (r1, r2, r3, r4, r5) := by first | (rw [hy337]; with_reducible exact H) | (have H2_ := (Option.bind_some _ _).symm.trans H; rw [hy337]; with_reducible exact H2_) | (have H2_ := (Option.bind_some _ _).symm.trans H; with_reducible exact H2_) | with_reducible exact H | (rw [hy337]; exact H) | exact H
      have Ny337 := aM_ hy337
      clear hy337
      by_cases c41 : x319001_1.length + y337.length < 17592186044416
      ·rw [if_pos c41] at H
       have LMc41 := aM_ c41
       clear c41
       obtain ⟨y340, hy340⟩ : ∃ y_ : List Int, y_ = (x319001_1 ++ y337) := ⟨_, rfl⟩
       replace H : (some ((wrap64 (1 + t312)), y340, t315, t329, t330)) = some (r1, r2, r3, r4, r5) := by first | (rw [hy340]; with_reducible exact H) | (have H2_ := (Option.bind_some _ _).symm.trans H; rw [hy340]; with_reducible exact H2_) | (have H2_ := (Option.bind_some _ _).symm.trans H; with_reducible exact H2_) | with_reducible exact H | (rw [hy340]; exact H) | exact H
       have Ny340 := aM_ hy340
       clear hy340
       simp only [Option.some.injEq, Prod.mk.injEq] at H
       obtain ⟨rfl, rfl, rfl, rfl, rfl⟩ := H
       have hnb42 := NB318_311.out
       have hnc42 := NB311_318.out
       have hnb43 := NB318_0.out
       have hnc43 := NB0_318.out
       obtain ⟨hcz44_0, hcz44_1, hcz44_2, hfz44_0, hfz44_1, hfz44_2⟩ := bR3_ BK318.out
       go_wp2_with (first | ((with_reducible refine gate_callee (f := 36) rfl ?_); refine gL_ (some 16) Tryd.func36 #[.pointer (some ⟨g, 0, none⟩), .int .i64 (wrap64 ((wrap64 (1 + t312)) + 1))] ?_; (with_reducible refine (spec_l1Below.calls g s0_0 x1001_1 x1002_1 (wrap64 ((wrap64 (1 + t312)) + 1)) t319 t320 t321 w0 _ ?side1 ?side2 A11.out).mono ?_); (case side1 => exact gI97_ HI0.out); (case side2 => exact gB97_ HB.out); rintro e w45 ⟨rfl, hi, hb, hk⟩; refine ⟨_, rfl, ?_⟩; have n0 := aM_ (Kd.R_mono (Kd.R_keep (IsS97.apart (show IsS97 w0 _ g s0_0 x1001_1 x1002_1 from gI97_ HI0.out) (by (with_reducible repeat (first | apply rA_ | apply rN_ | apply rD_)); exact HO_319001.out) (by decide)) hk (fun _ h => h.2)) (fun _ h => h.1)); have n1 := aM_ (KeepBut.blk hk (g' := gb311) (o := .cells #[.int .i64 0, .slice none 0 0, .bool false] 33 (0, 0)) (by (with_reducible repeat (first | refine bN_ ?_ _ | refine bD_ ?_ | refine bA_ ?_ _)); exact BK311.out) NB311_0.out (by simp)); have n2 := aM_ (KeepBut.blk hk (g' := gb318) (o := .cells #[.int .i64 (wrap64 (1 + t312)), u319001, .bool t315] 33 (0, 0)) (by (with_reducible repeat (first | refine bN_ ?_ _ | refine bD_ ?_ | refine bA_ ?_ _)); exact BK318.out) NB318_0.out (by simp)); have n3 := aM_ (KeepBut.trans (gK_ HK.out) hk (.inl rfl)); have n4 := aM_ (hb); have n5 := aM_ (hi); clear HO_319001; clear BK311; clear BK318; clear HK; clear HB; clear HI0; have HO_319001 := n0; have BK311 := n1; have BK318 := n2; have HK := n3; have HB := n4; have HI0 := n5; clear n0 n1 n2 n3 n4 n5) | ((with_reducible refine gate_callee (f := 36) rfl ?_); refine gL_ (some 29) Tryd.func36 #[.pointer (some ⟨g, 0, none⟩), .int .i64 12] ?_; (with_reducible refine (spec_l1Below.calls g s0_0 t320 t321 12 t328 t329 t330 w0 _ ?side1 ?side2 A24.out).mono ?_); (case side1 => exact gI97_ HI0.out); (case side2 => exact gB97_ HB.out); rintro e w46 ⟨rfl, hi, hb, hk⟩; refine ⟨_, rfl, ?_⟩; have n0 := aM_ (Kd.R_mono (Kd.R_keep (IsS97.apart (show IsS97 w0 _ g s0_0 t320 t321 from gI97_ HI0.out) (by (with_reducible repeat (first | apply rA_ | apply rN_ | apply rD_)); exact HO_319001.out) (by decide)) hk (fun _ h => h.2)) (fun _ h => h.1)); have n1 := aM_ (KeepBut.blk hk (g' := gb311) (o := .cells #[.int .i64 0, .slice none 0 0, .bool false] 33 (0, 0)) (by (with_reducible repeat (first | refine bN_ ?_ _ | refine bD_ ?_ | refine bA_ ?_ _)); exact BK311.out) NB311_0.out (by simp)); have n2 := aM_ (KeepBut.blk hk (g' := gb318) (o := .cells #[.int .i64 (wrap64 (1 + t312)), u319001, .bool t315] 33 (0, 0)) (by (with_reducible repeat (first | refine bN_ ?_ _ | refine bD_ ?_ | refine bA_ ?_ _)); exact BK318.out) NB318_0.out (by simp)); have n3 := aM_ (KeepBut.trans (gK_ HK.out) hk (.inl rfl)); have n4 := aM_ (hb); have n5 := aM_ (hi); clear HO_319001; clear BK311; clear BK318; clear HK; clear HB; clear HI0; have HO_319001 := n0; have BK311 := n1; have BK318 := n2; have HK := n3; have HB := n4; have HI0 := n5; clear n0 n1 n2 n3 n4 n5; obtain ⟨hcz47_0, hcz47_1, hcz47_2, hfz47_0, hfz47_1, hfz47_2⟩ := bR3_ BK318.out) | ((with_reducible refine gate_dst (N := 40) rfl ?_); refine Kd.R_lit (Kd.int .i64) _ 3 ?hg (N := 40) ?hd (xs := ([1, 2, 3, 4] : List Int)) (inner := [.int .i64 1, .int .i64 2, .int .i64 3, .int .i64 4]) (ok := fun _ => True) (okp := fun _ => True) ?hr ?hp (fun _ hk => hk) trivial (Below.refl _ _) (Nat.le_refl _) (by simp) ?_; (case hd => rfl); (case hg => rfl); (case hr => first | (go_simp; done) | (go_simp; rfl)); (case hp => exact (Reps.one (show Kd.M (Kd.int .i64) _ _ _ 1 [.int .i64 1] from rfl) (Reps.one (show Kd.M (Kd.int .i64) _ _ _ 2 [.int .i64 2] from rfl) (Reps.one (show Kd.M (Kd.int .i64) _ _ _ 3 [.int .i64 3] from rfl) (Reps.one (show Kd.M (Kd.int .i64) _ _ _ 4 [.int .i64 4] from rfl) (Reps.none _ _)))))); intro v338 w48 ho49 hb hg_ hnew_; clear hg_ hnew_; (first | rw [← Ny337.out] at ho49 | (simp only [Int.reduceToNat] at ho49; rw [← Ny337.out] at ho49)); have n0 := aM_ (Kd.R_elder' (by (with_reducible repeat (first | apply rA_ | apply rN_ | apply rD_)); exact HO_319001.out) (Kd.R_base ho49) hb); have n1 := aM_ (Kd.R_lower (Kd.R_new' ho49 (Kd.R_lt (by (with_reducible repeat (first | apply rA_ | apply rN_ | apply rD_)); exact HO_319001.out))) (keep_size (w := w) (g := g) (row := none) (gK_ HK.out))); have n2 := aM_ (nB_ BK311.out hb); have n3 := aM_ (nB_ BK318.out hb); have n4 := aM_ (IsS97.below (gI97_ HI0.out) hb); have n5 := aM_ (KeepBut.trans (gK_ HK.out) (KeepBut.of_below hb g none) (.inl rfl)); have n6 := aM_ (below_step (gB97_ HB.out) hb); clear HO_319001; clear BK311; clear BK318; clear HI0; clear HK; clear HB; have HO_319001 := n0; have HO339 := n1; have BK311 := n2; have BK318 := n3; have HI0 := n4; have HK := n5; have HB := n6; clear n0 n1 n2 n3 n4 n5 n6; clear hb ho49; obtain ⟨Ao51, co51, eo51⟩ := Kd.R_slice HO339.out; subst eo51) | ((with_reducible refine gate_builtin (b := .append) (xs := #[.tmp 39, .tmp 40]) rfl ?_); at_builtin; refine Kd.R_append_rows (Kd.int .i64) w.heap.size rfl (.tmp 39) (.tmp 40) 31 3 (.int .i64 0) 8 rfl Tryd.underlying31 info3 rfl (by decide) (by omega) u319001 x319001_1 y337 _ _ _ (fun k_ => some k_ ≠ (.slice Ao51 y337.length co51 : Value).ownBlock) (fun _ => False) rfl rfl ?aO ?aR (fun _ _ h => h) (fun _ h => h.elim) ?aF (Below.refl _ _) ?aS ?aL ?_; (case aR => repeat (first | exact (Kd.R_reads' HO339.out).2.2 | (with_reducible refine Kd.C_alloc ?_ _) | (with_reducible refine Kd.C_drewN ?_ _) | (with_reducible refine Kd.C_drew ?_))); (case aF => exact (fun k_ hk => Kd.fresh' (Kd.R_lt (by (with_reducible repeat (first | apply rA_ | apply rN_ | apply rD_)); exact HO339.out)) k_ hk)); (case aO => exact (by (with_reducible repeat (first | apply rA_ | apply rN_ | apply rD_)); exact Kd.R_mono HO_319001.out (fun _ hk => hk.2))); (case aS => exact (keep_size (w := w) (g := g) (row := none) (gK_ HK.out))); (case aL => have := LMc41.out; omega); intro v341 w50 ho hb hg hat; rw [← Ny340.out] at ho; have n0 := aM_ (blk_grown (g := gb311) (o := .cells #[.int .i64 0, .slice none 0 0, .bool false] 33 (0, 0)) (by (with_reducible repeat (first | refine bN_ ?_ _ | refine bD_ ?_ | refine bA_ ?_ _)); exact BK311.out) hg (Kd.R_ne HO_319001.out BK311.out (by decide))); have n1 := aM_ (blk_grown (g := gb318) (o := .cells #[.int .i64 (wrap64 (1 + t312)), u319001, .bool t315] 33 (0, 0)) (by (with_reducible repeat (first | refine bN_ ?_ _ | refine bD_ ?_ | refine bA_ ?_ _)); exact BK318.out) hg (Kd.R_ne HO_319001.out BK318.out (by decide))); have n2 := aM_ (IsS97.grown (gI97_ HI0.out) hg (IsS97.own_ne HI0.out HO_319001.out (by decide))); have n3 := aM_ (Kd.R_after (ok := (fun _ => True)) (by (with_reducible repeat (first | apply rA_ | apply rN_ | apply rD_)); exact HO339.out) hg hat); have n4 := aM_ (below_weaken (gB97_ HB.out) HL.out hb); have n5 := aM_ (KeepBut.trans (gK_ HK.out) (KeepBut.of_grown hg g) (Kd.R_base2 HO_319001.out)); have n6 := aM_ (ho); clear BK311; clear BK318; clear HI0; clear HO339; clear HB; clear HK; clear HO_319001; have BK311 := n0; have BK318 := n1; have HI0 := n2; have HO339 := n3; have HB := n4; have HK := n5; have HO342 := n6; clear n0 n1 n2 n3 n4 n5 n6; clear ho hb hg hat; obtain ⟨Ao52, co52, eo52⟩ := Kd.R_slice HO342.out; subst eo52; obtain ⟨hcz53_0, hcz53_1, hcz53_2, hfz53_0, hfz53_1, hfz53_2⟩ := bR3_ BK318.out; have hnb54 := NB311_0.out; have hnc54 := NB0_311.out; obtain ⟨hcz55_0, hcz55_1, hcz55_2, hfz55_0, hfz55_1, hfz55_2⟩ := bR3_ BK311.out))
       refine bodyPost_ret (results_cell_row rfl _ _ gb311 33 #[.int .i64 (wrap64 (1 + t312)), .slice Ao52 y340.length co52, .bool t315] (0, 0) _ rfl (by (with_reducible repeat (first | refine bN_ ?_ _ | refine bD_ ?_ | refine bA_ ?_ _)); refine blk_put (cs := #[.int .i64 (wrap64 (1 + t312)), .slice Ao52 y340.length co52, .bool false]) ?_ 2 _ rfl; (with_reducible repeat (first | refine bN_ ?_ _ | refine bD_ ?_ | refine bA_ ?_ _)); refine blk_put (cs := #[.int .i64 (wrap64 (1 + t312)), .slice none 0 0, .bool false]) ?_ 1 _ rfl; (with_reducible repeat (first | refine bN_ ?_ _ | refine bD_ ?_ | refine bA_ ?_ _)); refine blk_put (cs := #[.int .i64 0, .slice none 0 0, .bool false]) ?_ 0 _ rfl; (with_reducible repeat (first | refine bN_ ?_ _ | refine bD_ ?_ | refine bA_ ?_ _)); refine blk_far ?_ NB311_318.out _; (with_reducible repeat (first | refine bN_ ?_ _ | refine bD_ ?_ | refine bA_ ?_ _)); exact BK311.out) Tryd.underlying33 rfl (by kernel_rfl)) rfl ?_
       exact ⟨_, fR_, by (with_reducible repeat (first | apply rA_ | apply rN_ | apply rD_)); exact Kd.R_mono (Kd.R_far (p := ⟨gb311, 2, none⟩) (Kd.R_far (p := ⟨gb311, 1, none⟩) (Kd.R_far (p := ⟨gb311, 0, none⟩) (Kd.R_far (p := ⟨gb318, 1, none⟩) (Kd.R_types (Kd.R_types HO342.out BK318.out (by decide)) BK311.out (by decide)) (fun _ hk => hk.1.2) (.slice Ao52 y340.length co52)) (fun _ hk => hk.2) (.int .i64 (wrap64 (1 + t312)))) (fun _ hk => hk.2) (.slice Ao52 y340.length co52)) (fun _ hk => hk.2) (.bool t315)) (fun _ hk => trivial), gI97_ HI0.out, gB97_ HB.out, gK_ HK.out⟩
      ·rw [if_neg c41] at H
       exact absurd H (by simp)
     ·rw [if_neg c40] at H
      have c40b0 : (t328 == 1) = false := beq_eq_false_iff_ne.mpr c40
      have c40b1 : (t328 != 1) = true := bne_iff_ne.mpr c40
      simp only [Option.some.injEq, Prod.mk.injEq] at H
      obtain ⟨rfl, rfl, rfl, rfl, rfl⟩ := H
      have hnb56 := NB318_311.out
      have hnc56 := NB311_318.out
      have hnb57 := NB318_0.out
      have hnc57 := NB0_318.out
      obtain ⟨hcz58_0, hcz58_1, hcz58_2, hfz58_0, hfz58_1, hfz58_2⟩ := bR3_ BK318.out
      go_wp2_with (first | ((with_reducible refine gate_callee (f := 36) rfl ?_); refine gL_ (some 16) Tryd.func36 #[.pointer (some ⟨g, 0, none⟩), .int .i64 (wrap64 ((wrap64 (1 + t312)) + 1))] ?_; (with_reducible refine (spec_l1Below.calls g s0_0 x1001_1 x1002_1 (wrap64 ((wrap64 (1 + t312)) + 1)) t319 t320 t321 w0 _ ?side1 ?side2 A11.out).mono ?_); (case side1 => exact gI97_ HI0.out); (case side2 => exact gB97_ HB.out); rintro e w59 ⟨rfl, hi, hb, hk⟩; refine ⟨_, rfl, ?_⟩; have n0 := aM_ (Kd.R_mono (Kd.R_keep (IsS97.apart (show IsS97 w0 _ g s0_0 x1001_1 x1002_1 from gI97_ HI0.out) (by (with_reducible repeat (first | apply rA_ | apply rN_ | apply rD_)); exact HO_319001.out) (by decide)) hk (fun _ h => h.2)) (fun _ h => h.1)); have n1 := aM_ (KeepBut.blk hk (g' := gb311) (o := .cells #[.int .i64 0, .slice none 0 0, .bool false] 33 (0, 0)) (by (with_reducible repeat (first | refine bN_ ?_ _ | refine bD_ ?_ | refine bA_ ?_ _)); exact BK311.out) NB311_0.out (by simp)); have n2 := aM_ (KeepBut.blk hk (g' := gb318) (o := .cells #[.int .i64 (wrap64 (1 + t312)), u319001, .bool t315] 33 (0, 0)) (by (with_reducible repeat (first | refine bN_ ?_ _ | refine bD_ ?_ | refine bA_ ?_ _)); exact BK318.out) NB318_0.out (by simp)); have n3 := aM_ (KeepBut.trans (gK_ HK.out) hk (.inl rfl)); have n4 := aM_ (hb); have n5 := aM_ (hi); clear HO_319001; clear BK311; clear BK318; clear HK; clear HB; clear HI0; have HO_319001 := n0; have BK311 := n1; have BK318 := n2; have HK := n3; have HB := n4; have HI0 := n5; clear n0 n1 n2 n3 n4 n5) | ((with_reducible refine gate_callee (f := 36) rfl ?_); refine gL_ (some 29) Tryd.func36 #[.pointer (some ⟨g, 0, none⟩), .int .i64 12] ?_; (with_reducible refine (spec_l1Below.calls g s0_0 t320 t321 12 t328 t329 t330 w0 _ ?side1 ?side2 A24.out).mono ?_); (case side1 => exact gI97_ HI0.out); (case side2 => exact gB97_ HB.out); rintro e w60 ⟨rfl, hi, hb, hk⟩; refine ⟨_, rfl, ?_⟩; have n0 := aM_ (Kd.R_mono (Kd.R_keep (IsS97.apart (show IsS97 w0 _ g s0_0 t320 t321 from gI97_ HI0.out) (by (with_reducible repeat (first | apply rA_ | apply rN_ | apply rD_)); exact HO_319001.out) (by decide)) hk (fun _ h => h.2)) (fun _ h => h.1)); have n1 := aM_ (KeepBut.blk hk (g' := gb311) (o := .cells #[.int .i64 0, .slice none 0 0, .bool false] 33 (0, 0)) (by (with_reducible repeat (first | refine bN_ ?_ _ | refine bD_ ?_ | refine bA_ ?_ _)); exact BK311.out) NB311_0.out (by simp)); have n2 := aM_ (KeepBut.blk hk (g' := gb318) (o := .cells #[.int .i64 (wrap64 (1 + t312)), u319001, .bool t315] 33 (0, 0)) (by (with_reducible repeat (first | refine bN_ ?_ _ | refine bD_ ?_ | refine bA_ ?_ _)); exact BK318.out) NB318_0.out (by simp)); have n3 := aM_ (KeepBut.trans (gK_ HK.out) hk (.inl rfl)); have n4 := aM_ (hb); have n5 := aM_ (hi); clear HO_319001; clear BK311; clear BK318; clear HK; clear HB; clear HI0; have HO_319001 := n0; have BK311 := n1; have BK318 := n2; have HK := n3; have HB := n4; have HI0 := n5; clear n0 n1 n2 n3 n4 n5; obtain ⟨hcz61_0, hcz61_1, hcz61_2, hfz61_0, hfz61_1, hfz61_2⟩ := bR3_ BK318.out; have hnb62 := NB311_0.out; have hnc62 := NB0_311.out; obtain ⟨hcz63_0, hcz63_1, hcz63_2, hfz63_0, hfz63_1, hfz63_2⟩ := bR3_ BK311.out; obtain ⟨Ao64, co64, eo64⟩ := Kd.R_slice HO_319001.out; subst eo64))
      refine bodyPost_ret (results_cell_row rfl _ _ gb311 33 #[.int .i64 (wrap64 (1 + t312)), .slice Ao64 x319001_1.length co64, .bool t315] (0, 0) _ rfl (by (with_reducible repeat (first | refine bN_ ?_ _ | refine bD_ ?_ | refine bA_ ?_ _)); refine blk_put (cs := #[.int .i64 (wrap64 (1 + t312)), .slice Ao64 x319001_1.length co64, .bool false]) ?_ 2 _ rfl; (with_reducible repeat (first | refine bN_ ?_ _ | refine bD_ ?_ | refine bA_ ?_ _)); refine blk_put (cs := #[.int .i64 (wrap64 (1 + t312)), .slice none 0 0, .bool false]) ?_ 1 _ rfl; (with_reducible repeat (first | refine bN_ ?_ _ | refine bD_ ?_ | refine bA_ ?_ _)); refine blk_put (cs := #[.int .i64 0, .slice none 0 0, .bool false]) ?_ 0 _ rfl; (with_reducible repeat (first | refine bN_ ?_ _ | refine bD_ ?_ | refine bA_ ?_ _)); exact BK311.out) Tryd.underlying33 rfl (by kernel_rfl)) rfl ?_
      exact ⟨_, fR_, by (with_reducible repeat (first | apply rA_ | apply rN_ | apply rD_)); exact Kd.R_mono (Kd.R_far (p := ⟨gb311, 2, none⟩) (Kd.R_far (p := ⟨gb311, 1, none⟩) (Kd.R_far (p := ⟨gb311, 0, none⟩) (Kd.R_types HO_319001.out BK311.out (by decide)) (fun _ hk => hk.2) (.int .i64 (wrap64 (1 + t312)))) (fun _ hk => hk.2) (.slice Ao64 x319001_1.length co64)) (fun _ hk => hk.2) (.bool t315)) (fun _ hk => trivial), gI97_ HI0.out, gB97_ HB.out, gK_ HK.out⟩
def spec_DrawChanText.f (k : Nat) (l0 : List Int) : Option (Int × List Int × Bool) := (spec_l1New.f k l0).bind fun bt344 => ((spec_l3Draw.f k bt344.1 bt344.2.1 bt344.2.2).bind fun bt348 => (some (bt348.1, bt348.2.1, bt348.2.2.1)))
set_option maxHeartbeats 8000000 in
set_option maxRecDepth 100000 in
theorem spec_DrawChanText.calls (k : Nat) (A0 : Option Addr) (c0 : Nat) (l0 : List Int) (r1 : Int) (r2 : List Int) (r3 : Bool) (w : World) (hr0 : Kd.C (Kd.int .u8) w A0 l0.length l0) (hc0 : l0.length ≤ c0) (h : spec_DrawChanText.f k l0 = some (r1, r2, r3)) :
  Calls Tryd.prog 10 #[.slice A0 l0.length c0] w fun e w' => ∃ v1_ : Value, e = .returned (.agg #[.int .i64 r1, v1_, .bool r3]) ∧ Kd.R (Kd.int .i64) 3 w' w.heap.size (fun _ => True) v1_ r2 ∧ Below w.heap.size w w' := by
 have hu33 := Tryd.underlying33
 have HR0 := aM_ hr0
 have HC0 := aM_ hc0
 clear hr0 hc0
 have HB := aM_ (Below.refl w.heap.size w)
 have H : ((spec_l1New.f k l0).bind fun bt344 => ((spec_l3Draw.f k bt344.1 bt344.2.1 bt344.2.2).bind fun bt348 => (some (bt348.1, bt348.2.1, bt348.2.2.1)))) = some (r1, r2, r3) := h
 clear h
 replace H := Option.bind_eq_some_iff.mp H
 obtain ⟨⟨t344, t345, t346⟩, A20, H⟩ := H
 replace H : ((spec_l3Draw.f k t344 t345 t346).bind fun bt348 => (some (bt348.1, bt348.2.1, bt348.2.2.1))) = some (r1, r2, r3) := H
 have A2 := aM_ A20
 clear A20
 replace H := Option.bind_eq_some_iff.mp H
 obtain ⟨⟨t348, t349, t352, t353, t354⟩, A30, H⟩ := H
 replace H : (some (t348, t349, t352)) = some (r1, r2, r3) := H
 have A3 := aM_ A30
 clear A30
 simp only [Option.some.injEq, Prod.mk.injEq] at H
 obtain ⟨rfl, rfl, rfl⟩ := H
 go_enter Tryd.func10, Tryd.ntmps10
 go_wp2_with (first | ((with_reducible refine gate_dst (N := 2) rfl ?_); refine bX_ 2 (cs := #[.int .i64 0, .slice none 0 0, .bool false]) (t := 33) ?_; intro gb343 hg w4 hbox hb; have n0 := aM_ (sT_ HB.out hb); have n1 := aM_ (hbox); have n2 := aM_ (sZ_ hg HB.out); have n3 := aM_ (sZ_ hg HB.out); clear HB; have HB := n0; have BK343 := n1; have GW343 := n2; have GE343 := n3; clear n0 n1 n2 n3; clear hb hbox hg) | ((with_reducible refine gate_callee (f := 35) rfl ?_); refine gL_ (some 4) Tryd.func35 #[.slice A0 l0.length c0] ?_; (with_reducible refine (spec_l1New.calls k _ _ l0 t344 t345 t346 w _ ?side1 ?side2 ?side3 A2.out).mono ?_); (case side1 => exact gB_ HB.out); (case side2 => exact HR0.out); (case side3 => exact HC0.out); rintro e w5 ⟨g347, rfl, hi, hb, hb2⟩; refine ⟨_, rfl, ?_⟩; have n0 := aM_ (blk_below (g := gb343) (o := .cells #[.int .i64 0, .slice none 0 0, .bool false] 33 (0, 0)) (by (with_reducible repeat (first | refine bN_ ?_ _ | refine bD_ ?_ | refine bA_ ?_ _)); exact BK343.out) hb2); have n1 := aM_ (hb); have n2 := aM_ (hi); have n3 := aM_ (IsS97.ne_blk hi (blk_below (g := gb343) (o := .cells #[.int .i64 0, .slice none 0 0, .bool false] 33 (0, 0)) (by (with_reducible repeat (first | refine bN_ ?_ _ | refine bD_ ?_ | refine bA_ ?_ _)); exact BK343.out) hb2) (by decide)); have n4 := aM_ (Ne.symm (IsS97.ne_blk hi (blk_below (g := gb343) (o := .cells #[.int .i64 0, .slice none 0 0, .bool false] 33 (0, 0)) (by (with_reducible repeat (first | refine bN_ ?_ _ | refine bD_ ?_ | refine bA_ ?_ _)); exact BK343.out) hb2) (by decide))); clear BK343; clear HB; have BK343 := n0; have HB := n1; have HI347 := n2; have NB347_343 := n3; have NB343_347 := n4; clear n0 n1 n2 n3 n4) | ((with_reducible refine gate_callee (f := 38) rfl ?_); refine gL_ (some 5) Tryd.func38 #[.pointer (some ⟨g347, 0, none⟩)] ?_; (with_reducible refine (spec_l3Draw.calls k g347 t344 t345 t346 t348 t349 t352 t353 t354 w _ ?side1 ?side2 A3.out).mono ?_); (case side1 => exact gI97_ HI347.out); (case side2 => exact gB97_ HB.out); rintro e w6 ⟨v350, rfl, ho0, hi, hb, hk⟩; refine ⟨_, rfl, ?_⟩; have n0 := aM_ (KeepBut.blk hk (g' := gb343) (o := .cells #[.int .i64 0, .slice none 0 0, .bool false] 33 (0, 0)) (by (with_reducible repeat (first | refine bN_ ?_ _ | refine bD_ ?_ | refine bA_ ?_ _)); exact BK343.out) NB343_347.out (by simp)); have n1 := aM_ (Kd.R_lower ho0 (below_size (gB97_ HB.out))); have n2 := aM_ (hb); have n3 := aM_ (hi); clear BK343; clear HB; clear HI347; have BK343 := n0; have HO351 := n1; have HB := n2; have HI347 := n3; clear n0 n1 n2 n3; (try clear ho0); have hnb7 := NB343_347.out; have hnc7 := NB347_343.out; obtain ⟨hcz8_0, hcz8_1, hcz8_2, hfz8_0, hfz8_1, hfz8_2⟩ := bR3_ BK343.out; obtain ⟨Ao9, co9, eo9⟩ := Kd.R_slice HO351.out; subst eo9))
 refine bodyPost_ret (results_cell_row rfl _ _ gb343 33 #[.int .i64 t348, .slice Ao9 t349.length co9, .bool t352] (0, 0) _ rfl (by (with_reducible repeat (first | refine bN_ ?_ _ | refine bD_ ?_ | refine bA_ ?_ _)); refine blk_put (cs := #[.int .i64 t348, .slice Ao9 t349.length co9, .bool false]) ?_ 2 _ rfl; (with_reducible repeat (first | refine bN_ ?_ _ | refine bD_ ?_ | refine bA_ ?_ _)); refine blk_put (cs := #[.int .i64 t348, .slice none 0 0, .bool false]) ?_ 1 _ rfl; (with_reducible repeat (first | refine bN_ ?_ _ | refine bD_ ?_ | refine bA_ ?_ _)); refine blk_put (cs := #[.int .i64 0, .slice none 0 0, .bool false]) ?_ 0 _ rfl; (with_reducible repeat (first | refine bN_ ?_ _ | refine bD_ ?_ | refine bA_ ?_ _)); exact BK343.out) Tryd.underlying33 rfl (by kernel_rfl)) rfl ?_
 exact ⟨_, fR_, by (with_reducible repeat (first | apply rA_ | apply rN_ | apply rD_)); exact Kd.R_mono (Kd.R_far (p := ⟨gb343, 2, none⟩) (Kd.R_far (p := ⟨gb343, 1, none⟩) (Kd.R_far (p := ⟨gb343, 0, none⟩) (Kd.R_types HO351.out BK343.out (by decide)) (fun _ hk => hk.2) (.int .i64 t348)) (fun _ hk => hk.2) (.slice Ao9 t349.length co9)) (fun _ hk => hk.2) (.bool t352)) (fun _ hk => trivial), gB97_ HB.out⟩
def impl_within.f (a0 : Int) (a1 : Int) (a2 : Int) : Option (Bool) := if a0 ≥ a1 then (some (decide (a0 ≤ a2))) else (some false)
set_option maxHeartbeats 8000000 in
set_option maxRecDepth 100000 in
theorem impl_within.calls (a0 : Int) (a1 : Int) (a2 : Int) (r : Bool) (w : World) (h : impl_within.f a0 a1 a2 = some r) :
  Calls Tryd.prog 51 #[.int .i64 a0, .int .i64 a1, .int .i64 a2] w fun e w' => e = .returned (.bool r) ∧ Drawn0 w w' := by
 have H : (if a0 ≥ a1 then (some (decide (a0 ≤ a2))) else (some false)) = some r := h
 clear h
 by_cases c4 : a0 ≥ a1
 ·rw [if_pos c4] at H
  have c4b0 : decide (a1 ≤ a0) = true := decide_eq_true c4
  clear c4
  obtain rfl := Option.some.inj H
  go_enter Tryd.func51, Tryd.ntmps51
  go_wp2
  go_ret
  exact ⟨by first | rfl | (simp; done) | (simp [*]; done), by repeat (first | exact Drawn0.refl _ | apply Drawn0.step)⟩
 ·rw [if_neg c4] at H
  have c4b0 : decide (a1 ≤ a0) = false := decide_eq_false c4
  clear c4
  obtain rfl := Option.some.inj H
  go_enter Tryd.func51, Tryd.ntmps51
  go_wp2
  go_ret
  exact ⟨by first | rfl | (simp; done) | (simp [*]; done), by repeat (first | exact Drawn0.refl _ | apply Drawn0.step)⟩
end Go.Proofs.YtdbobicbbfmepaaDoor.PFnTexts
namespace Go.Proofs.YtdbobicbbfmepaaDoor.PFnTexts
open Go.RowKit Go.Proofs.YtdbobicbbfmepaaDoorW.PrintWords Go.Proofs.YtdbobicbbfmepaaDoorW.PrintLast Go.Proofs.YtdbobicbbfmepaaDoorW.PrintMore
attribute [local go_sem] max2_int min2_int max_two min_two max_three min_three max_four min_four   -- for this text's walks alone
set_option linter.unusedVariables false
set_option linter.unusedSimpArgs false
theorem eqA25 (d : Nat) (w : World) (x0 y0 : Int) (x1 y1 : Int) (x2 y2 : Int) (x3 y3 : Int) (x4 y4 : Int) :
  (Op.equalIn (d + 2) 25 (.agg #[.int .i64 x0, .int .i64 x1, .int .i64 x2, .int .i64 x3, .int .i64 x4]) (.agg #[.int .i64 y0, .int .i64 y1, .int .i64 y2, .int .i64 y3, .int .i64 y4])).run Tryd.prog w = .ok (x0 == y0 && (x1 == y1 && (x2 == y2 && (x3 == y3 && (x4 == y4))))) w := by
 refine eqA_of Tryd.underlying25 (by kernel_rfl) ?_
 refine eqf_cons (by rfl) (by go_simp; rfl) (by go_simp; rfl) (by go_simp) ?_
 refine eqf_cons (by rfl) (by go_simp; rfl) (by go_simp; rfl) (by go_simp) ?_
 refine eqf_cons (by rfl) (by go_simp; rfl) (by go_simp; rfl) (by go_simp) ?_
 refine eqf_cons (by rfl) (by go_simp; rfl) (by go_simp; rfl) (by go_simp) ?_
 exact eqf_last (by rfl) (by go_simp; rfl) (by go_simp; rfl) (by go_simp)
end Go.Proofs.YtdbobicbbfmepaaDoor.PFnTexts
