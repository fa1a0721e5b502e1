/- A part of the proof that the law FnExactCodeText holds for every input: the words, functions and walks that its row needs, without a condition of their own. -/
import Derived.Test.YtkjfcmgpplapeaaDoorZFnExactCodeTexta4
import Derived.Test.YtkjfcmgpplapeaaDoorZFnExactCodeTexta13
import Derived.Test.YtkjfcmgpplapeaaDoorZFnExactCodeTexts
namespace Go.Proofs.YtkjfcmgpplapeaaDoor.PFnExactCodeText
open Go.RowKit Go.Proofs.YtkjfcmgpplapeaaDoorW.PrintWords Go.Proofs.YtkjfcmgpplapeaaDoorW.PrintLast Go.Proofs.YtkjfcmgpplapeaaDoorW.PrintMore
attribute [local go_sem] max2_int min2_int max_two min_two max_three min_three max_four min_four   -- for this text's walks alone
set_option linter.unusedVariables false
set_option linter.unusedSimpArgs false
def impl_cellText.j0 : Nat → Bool → Int → Int → Int → Int → Int → Option (ByteArray)
  | 0, _, _, _, _, _, _ => none
  | k + 1, x10, x191000, x191001, x191002, x191003, x191004 => if x10 = true then ((impl_digits.f x191004).bind fun t191 => (if 1 + t191.size ≤ 9223372036854775807 then (if ((⟨#[91]⟩ : ByteArray) ++ t191).size + 1 ≤ 9223372036854775807 then ((impl_reg.f x191002).bind fun t192 => (if (((⟨#[91]⟩ : ByteArray) ++ t191) ++ (⟨#[43]⟩ : ByteArray)).size + t192.size ≤ 9223372036854775807 then (if ((((⟨#[91]⟩ : ByteArray) ++ t191) ++ (⟨#[43]⟩ : ByteArray)) ++ t192).size + 1 ≤ 9223372036854775807 then (some (((((⟨#[91]⟩ : ByteArray) ++ t191) ++ (⟨#[43]⟩ : ByteArray)) ++ t192) ++ (⟨#[93]⟩ : ByteArray))) else (none)) else (none))) else (none)) else (none))) else ((impl_digits.f x191004).bind fun t193 => (if 1 + t193.size ≤ 9223372036854775807 then (if ((⟨#[91]⟩ : ByteArray) ++ t193).size + 1 ≤ 9223372036854775807 then (some (((⟨#[91]⟩ : ByteArray) ++ t193) ++ (⟨#[93]⟩ : ByteArray))) else (none)) else (none)))
def impl_cellText.f (k : Nat) (a0_0 : Int) (a0_1 : Int) (a0_2 : Int) (a0_3 : Int) (a0_4 : Int) : Option (ByteArray) := if a0_0 = 8 then (impl_cellText.j0 k false a0_0 a0_1 a0_2 a0_3 a0_4) else (impl_cellText.j0 k (decide (a0_2 ≥ 0)) a0_0 a0_1 a0_2 a0_3 a0_4)
def impl_cellText.T2 : Bool × List (List Nat × List Nat) := (true, [([], []), ([0], [0]), ([1], [1]), ([2], [2]), ([3], [3]), ([], []), ([5], [5]), ([6, 2], [6]), ([4, 7], [4, 7]), ([8], [8]), ([9, 7, 0, 1, 2, 3, 4, 5, 6, 7, 8, 9], [9])])
def impl_cellText.B2 : List Nat := [0, 1, 3, 7, 15, 0, 32, 103, 255, 511, 1023]
theorem impl_cellText.tab2 : rtab .any (opsOf Tryd.f81 2) = impl_cellText.T2 := by kernel_rfl
theorem impl_cellText.bits2 : waitsOk impl_cellText.T2.2 impl_cellText.B2 = true := by kernel_rfl
set_option maxHeartbeats 8000000 in
set_option maxRecDepth 100000 in
theorem impl_cellText.calls (k : Nat) (a0_0 : Int) (a0_1 : Int) (a0_2 : Int) (a0_3 : Int) (a0_4 : Int) (r : ByteArray) (w : World) (h : impl_cellText.f k a0_0 a0_1 a0_2 a0_3 a0_4 = some r) (hT : Tab.Laid w) :
  Calls Tryd.prog 81 #[.agg #[.int .i64 a0_0, .int .i64 a0_1, .int .i64 a0_2, .int .i64 a0_3, .int .i64 a0_4]] w fun e w' => e = .returned (.string r) ∧ Below w.heap.size w w' := by
 have hu46 := Tryd.underlying46
 have HB := aM_ (Below.refl w.heap.size w)
 have H : (if a0_0 = 8 then (impl_cellText.j0 k false a0_0 a0_1 a0_2 a0_3 a0_4) else (impl_cellText.j0 k (decide (a0_2 ≥ 0)) a0_0 a0_1 a0_2 a0_3 a0_4)) = some r := h
 clear h
 have HC2 := aM_ H
 clear H
 go_enter Tryd.func81, Tryd.ntmps81
 go_upto_region 1 with (first | ((with_reducible refine gate_dst (N := 1) rfl ?_); refine box_event ?hg (N := 1) ?hd (cs := #[.int .i64 a0_0, .int .i64 a0_1, .int .i64 a0_2, .int .i64 a0_3, .int .i64 a0_4]) (t := 46) ?hr ?_; (case hd => rfl); (case hg => rfl); (case hr => first | (go_simp; done) | (go_simp; rfl)); intro gb190 hg w3 hbox hb; have n0 := aM_ (below_step (by repeat (first | (with_reducible first | exact HB.out | apply hA_ | apply hN_ | apply hD_) | exact HB.out)) hb); have n1 := aM_ (hbox); have n2 := aM_ ((by rw [hg]; exact (below_size (by repeat (first | (with_reducible first | exact HB.out | apply hA_ | apply hN_ | apply hD_) | exact HB.out))) : w.heap.size ≤ gb190)); have n3 := aM_ ((by rw [hg]; exact (below_size (by repeat (first | (with_reducible first | exact HB.out | apply hA_ | apply hN_ | apply hD_) | exact HB.out))) : w.heap.size ≤ gb190)); clear HB; have HB := n0; have BK190 := n1; have GW190 := n2; have GE190 := n3; clear n0 n1 n2 n3; clear hb hbox hg))
 (try simp only [Act.put, List.setIfInBounds_toArray, List.set_cons_zero, List.set_cons_succ])
 go_cut [10] (fun v10 wc => ∃ (kq : Nat) (x10_1 : Bool), v10 = .bool x10_1 ∧ Aside0 (impl_cellText.j0 kq x10_1 a0_0 a0_1 a0_2 a0_3 a0_4 = some r) ∧ Aside0 (kq ≤ k) ∧ Aside0 (wc.heap[gb190]? = some (.cells #[.int .i64 a0_0, .int .i64 a0_1, .int .i64 a0_2, .int .i64 a0_3, .int .i64 a0_4] 46 (0, 0))) ∧ Aside0 (Below w.heap.size w wc))
 case first =>
  have H := HC2.out
  clear HC2
  by_cases c4 : a0_0 = 8
  ·rw [if_pos c4] at H
   have c4b0 : (a0_0 == 8) = true := beq_iff_eq.mpr c4
   have c4b1 : (a0_0 != 8) = false := bne_eq_false_iff_eq.mpr c4
   clear c4
   (first | rw [c4b0] | (simp only [i64_w, i32_w]; rw [c4b0]) | skip)
   have H' := aM_ H
   clear H
   have hcz5_0 : w3.cell? ⟨gb190, 0, none⟩ = some (.int .i64 a0_0) := (blk_cell BK190.out 0).trans rfl
   have hcz5_1 : w3.cell? ⟨gb190, 1, none⟩ = some (.int .i64 a0_1) := (blk_cell BK190.out 1).trans rfl
   have hcz5_2 : w3.cell? ⟨gb190, 2, none⟩ = some (.int .i64 a0_2) := (blk_cell BK190.out 2).trans rfl
   have hcz5_3 : w3.cell? ⟨gb190, 3, none⟩ = some (.int .i64 a0_3) := (blk_cell BK190.out 3).trans rfl
   have hcz5_4 : w3.cell? ⟨gb190, 4, none⟩ = some (.int .i64 a0_4) := (blk_cell BK190.out 4).trans rfl
   have hfz5_0 := blk_frozen BK190.out 0
   have hfz5_1 := blk_frozen BK190.out 1
   have hfz5_2 := blk_frozen BK190.out 2
   have hfz5_3 := blk_frozen BK190.out 3
   have hfz5_4 := blk_frozen BK190.out 4
   go_wp2
   go_meet
   case rel => exact ⟨_, (false), (by first | rfl | (simp; done) | (simp [*]; done)), H', ⟨by first | omega | exact Nat.le_refl _⟩, ⟨by (with_reducible repeat (first | refine bN_ ?_ _ | refine bD_ ?_ | refine bA_ ?_ _)); exact BK190.out⟩, ⟨by repeat (first | (with_reducible first | exact HB.out | apply hA_ | apply hN_ | apply hD_ | refine below_set ?_ GE190.out) | exact HB.out)⟩⟩
  ·rw [if_neg c4] at H
   have c4b0 : (a0_0 == 8) = false := beq_eq_false_iff_ne.mpr c4
   have c4b1 : (a0_0 != 8) = true := bne_iff_ne.mpr c4
   (first | rw [c4b0] | (simp only [i64_w, i32_w]; rw [c4b0]) | skip)
   have H' := aM_ H
   clear H
   have hcz6_0 : w3.cell? ⟨gb190, 0, none⟩ = some (.int .i64 a0_0) := (blk_cell BK190.out 0).trans rfl
   have hcz6_1 : w3.cell? ⟨gb190, 1, none⟩ = some (.int .i64 a0_1) := (blk_cell BK190.out 1).trans rfl
   have hcz6_2 : w3.cell? ⟨gb190, 2, none⟩ = some (.int .i64 a0_2) := (blk_cell BK190.out 2).trans rfl
   have hcz6_3 : w3.cell? ⟨gb190, 3, none⟩ = some (.int .i64 a0_3) := (blk_cell BK190.out 3).trans rfl
   have hcz6_4 : w3.cell? ⟨gb190, 4, none⟩ = some (.int .i64 a0_4) := (blk_cell BK190.out 4).trans rfl
   have hfz6_0 := blk_frozen BK190.out 0
   have hfz6_1 := blk_frozen BK190.out 1
   have hfz6_2 := blk_frozen BK190.out 2
   have hfz6_3 := blk_frozen BK190.out 3
   have hfz6_4 := blk_frozen BK190.out 4
   go_wp2
   go_meet
   case rel => exact ⟨_, (decide (a0_2 ≥ 0)), (by first | rfl | (simp; done) | (simp [*]; done)), H', ⟨by first | omega | exact Nat.le_refl _⟩, ⟨by (with_reducible repeat (first | refine bN_ ?_ _ | refine bD_ ?_ | refine bA_ ?_ _)); exact BK190.out⟩, ⟨by repeat (first | (with_reducible first | exact HB.out | apply hA_ | apply hN_ | apply hD_ | refine below_set ?_ GE190.out) | exact HB.out)⟩⟩
 case rest =>
  clear HC2
  try clear p2
  try clear c4
  try clear c4b0
  try clear c4b1
  try clear hcz5_0
  try clear hcz5_1
  try clear hcz5_2
  try clear hcz5_3
  try clear hcz5_4
  try clear hcz6_0
  try clear hcz6_1
  try clear hcz6_2
  try clear hcz6_3
  try clear hcz6_4
  try clear hfz5_0
  try clear hfz5_1
  try clear hfz5_2
  try clear hfz5_3
  try clear hfz5_4
  try clear hfz6_0
  try clear hfz6_1
  try clear hfz6_2
  try clear hfz6_3
  try clear hfz6_4
  obtain ⟨kq, x10_1, rfl, HA, HJ1, BK190, HB⟩ := hcut
  cases kq with
  | zero => exact absurd HA.out (by simp [impl_cellText.j0])
  | succ kj1 =>
   have H := HA.out
   clear HA
   simp only [impl_cellText.j0] at H
   by_cases c7 : x10_1 = true
   ·subst c7
    have H1 : ((impl_digits.f a0_4).bind fun t191 => (if 1 + t191.size ≤ 9223372036854775807 then (if ((⟨#[91]⟩ : ByteArray) ++ t191).size + 1 ≤ 9223372036854775807 then ((impl_reg.f a0_2).bind fun t192 => (if (((⟨#[91]⟩ : ByteArray) ++ t191) ++ (⟨#[43]⟩ : ByteArray)).size + t192.size ≤ 9223372036854775807 then (if ((((⟨#[91]⟩ : ByteArray) ++ t191) ++ (⟨#[43]⟩ : ByteArray)) ++ t192).size + 1 ≤ 9223372036854775807 then (some (((((⟨#[91]⟩ : ByteArray) ++ t191) ++ (⟨#[43]⟩ : ByteArray)) ++ t192) ++ (⟨#[93]⟩ : ByteArray))) else (none)) else (none))) else (none)) else (none))) = some r := by rw [if_pos rfl] at H; exact H
    clear H
    have H := H1
    clear H1
    replace H := Option.bind_eq_some_iff.mp H
    obtain ⟨t191, A80, H⟩ := H
    replace H : (if 1 + t191.size ≤ 9223372036854775807 then (if ((⟨#[91]⟩ : ByteArray) ++ t191).size + 1 ≤ 9223372036854775807 then ((impl_reg.f a0_2).bind fun t192 => (if (((⟨#[91]⟩ : ByteArray) ++ t191) ++ (⟨#[43]⟩ : ByteArray)).size + t192.size ≤ 9223372036854775807 then (if ((((⟨#[91]⟩ : ByteArray) ++ t191) ++ (⟨#[43]⟩ : ByteArray)) ++ t192).size + 1 ≤ 9223372036854775807 then (some (((((⟨#[91]⟩ : ByteArray) ++ t191) ++ (⟨#[43]⟩ : ByteArray)) ++ t192) ++ (⟨#[93]⟩ : ByteArray))) else (none)) else (none))) else (none)) else (none)) = some r := H
    have A8 := aM_ A80
    clear A80
    by_cases c9 : 1 + t191.size ≤ 9223372036854775807
    ·rw [if_pos c9] at H
     have c9b0 := eq_true c9
     have c9b1 : decide (1 + t191.size ≤ 9223372036854775807) = true := decide_eq_true c9
     try have c9b2 : (9223372036854775807 < 1 + t191.size) = False := eq_false (Nat.not_lt.2 c9)
     by_cases c10 : ((⟨#[91]⟩ : ByteArray) ++ t191).size + 1 ≤ 9223372036854775807
     ·rw [if_pos c10] at H
      have c10b0 := eq_true c10
      have c10b1 : decide (((⟨#[91]⟩ : ByteArray) ++ t191).size + 1 ≤ 9223372036854775807) = true := decide_eq_true c10
      (try (have c10n := c10; simp only [ByteArray.size_append, Tab.sz_mk, List.size_toArray, List.length_cons, List.length_nil, Nat.zero_add, Nat.reduceAdd] at c10n; have c10b4 := eq_true c10n; have c10b5 := eq_false (Nat.not_lt.2 c10n)))
      try have c10b2 : (9223372036854775807 < ((⟨#[91]⟩ : ByteArray) ++ t191).size + 1) = False := eq_false (Nat.not_lt.2 c10)
      replace H := Option.bind_eq_some_iff.mp H
      obtain ⟨t192, A110, H⟩ := H
      replace H : (if (((⟨#[91]⟩ : ByteArray) ++ t191) ++ (⟨#[43]⟩ : ByteArray)).size + t192.size ≤ 9223372036854775807 then (if ((((⟨#[91]⟩ : ByteArray) ++ t191) ++ (⟨#[43]⟩ : ByteArray)) ++ t192).size + 1 ≤ 9223372036854775807 then (some (((((⟨#[91]⟩ : ByteArray) ++ t191) ++ (⟨#[43]⟩ : ByteArray)) ++ t192) ++ (⟨#[93]⟩ : ByteArray))) else (none)) else (none)) = some r := H
      have A11 := aM_ A110
      clear A110
      by_cases c12 : (((⟨#[91]⟩ : ByteArray) ++ t191) ++ (⟨#[43]⟩ : ByteArray)).size + t192.size ≤ 9223372036854775807
      ·rw [if_pos c12] at H
       have c12b0 := eq_true c12
       have c12b1 : decide ((((⟨#[91]⟩ : ByteArray) ++ t191) ++ (⟨#[43]⟩ : ByteArray)).size + t192.size ≤ 9223372036854775807) = true := decide_eq_true c12
       (try (have c12n := c12; simp only [ByteArray.size_append, Tab.sz_mk, List.size_toArray, List.length_cons, List.length_nil, Nat.zero_add, Nat.reduceAdd] at c12n; have c12b4 := eq_true c12n; have c12b5 := eq_false (Nat.not_lt.2 c12n)))
       try have c12b2 : (9223372036854775807 < (((⟨#[91]⟩ : ByteArray) ++ t191) ++ (⟨#[43]⟩ : ByteArray)).size + t192.size) = False := eq_false (Nat.not_lt.2 c12)
       by_cases c13 : ((((⟨#[91]⟩ : ByteArray) ++ t191) ++ (⟨#[43]⟩ : ByteArray)) ++ t192).size + 1 ≤ 9223372036854775807
       ·rw [if_pos c13] at H
        have c13b0 := eq_true c13
        have c13b1 : decide (((((⟨#[91]⟩ : ByteArray) ++ t191) ++ (⟨#[43]⟩ : ByteArray)) ++ t192).size + 1 ≤ 9223372036854775807) = true := decide_eq_true c13
        (try (have c13n := c13; simp only [ByteArray.size_append, Tab.sz_mk, List.size_toArray, List.length_cons, List.length_nil, Nat.zero_add, Nat.reduceAdd] at c13n; have c13b4 := eq_true c13n; have c13b5 := eq_false (Nat.not_lt.2 c13n)))
        try have c13b2 : (9223372036854775807 < ((((⟨#[91]⟩ : ByteArray) ++ t191) ++ (⟨#[43]⟩ : ByteArray)) ++ t192).size + 1) = False := eq_false (Nat.not_lt.2 c13)
        obtain rfl := Option.some.inj H
        try go_wp2
        have n0 := aM_ (blk_drew BK190.out)
        have n1 := aM_ (below_drew1 HB.out)
        clear BK190
        clear HB
        have BK190 := n0
        have HB := n1
        clear n0 n1
        refine start_ (n := 11) (S := fun w' => w'.cell? ⟨gb190, 0, none⟩ = some (.int .i64 a0_0) ∧ w'.cell? ⟨gb190, 1, none⟩ = some (.int .i64 a0_1) ∧ w'.cell? ⟨gb190, 2, none⟩ = some (.int .i64 a0_2) ∧ w'.cell? ⟨gb190, 3, none⟩ = some (.int .i64 a0_3) ∧ w'.cell? ⟨gb190, 4, none⟩ = some (.int .i64 a0_4)) (ds := []) #[false, false, false, false, false, false, false, false, false, false, false] (by kernel_rfl) rfl rfl ⟨(blk_cell BK190.out 0).trans rfl, (blk_cell BK190.out 1).trans rfl, (blk_cell BK190.out 2).trans rfl, (blk_cell BK190.out 3).trans rfl, (blk_cell BK190.out 4).trans rfl⟩ (fun hHeld => ?_); refine with_tabW impl_cellText.tab2 impl_cellText.bits2 (fun HT_ HW_ => ?_)
        generalize wc.drew = w14 at BK190 HB hHeld ⊢
        refine pure_ (i := 0) (N := some 11) (v := ?_) (a' := ?_) #[true, false, false, false, false, false, false, false, false, false, false] rfl rfl (any_of HT_.out (by kernel_rfl)) (fun _ _ _ h => h) (Or.inl ⟨by rfl, ?_⟩) ?_ ?_
        rotate_left
        ·intro w'
         go_simp
         with_reducible rfl
        rotate_left
        ·simp only [pt_, pn_, sI_, s0_, s1_, i64_w, i32_w]
         rfl
        refine pure_ (i := 5) (N := some 16) (v := ?_) (a' := ?_) #[true, false, false, false, false, true, false, false, false, false, false] rfl rfl (any_of HT_.out (by kernel_rfl)) (fun _ _ _ h => h) (Or.inl ⟨by rfl, ?_⟩) ?_ ?_
        rotate_left
        ·intro w'
         go_simp
         with_reducible rfl
        rotate_left
        ·simp only [pt_, pn_, sI_, s0_, s1_, i64_w, i32_w]
         rfl
        refine take_ (i := 1) (N := some 12) (v := ?_) (a' := ?_) #[true, true, false, false, false, true, false, false, false, false, false] rfl rfl (take_ofW HT_.out HW_.out (by kernel_rfl)) (fun _ _ _ h => h) (Or.inl ⟨by rfl, ?_⟩) hHeld ?_ ?_
        rotate_left
        ·rintro w' ⟨s0, s1, s2, s3, s4⟩
         go_simp
         with_reducible rfl
        rotate_left
        ·simp only [pt_, pn_, sI_, s0_, s1_, i64_w, i32_w]
         rfl
        refine take_ (i := 6) (N := some 17) (v := ?_) (a' := ?_) #[true, true, false, false, false, true, true, false, false, false, false] rfl rfl (take_ofW HT_.out HW_.out (by kernel_rfl)) (fun _ _ _ h => h) (Or.inl ⟨by rfl, ?_⟩) hHeld ?_ ?_
        rotate_left
        ·rintro w' ⟨s0, s1, s2, s3, s4⟩
         go_simp
         with_reducible rfl
        rotate_left
        ·simp only [pt_, pn_, sI_, s0_, s1_, i64_w, i32_w]
         rfl
        refine one_ (i := 2) (N := some 13) #[true, true, true, false, false, true, true, false, false, false, false] rfl rfl (one_of HT_.out (by kernel_rfl)) (by decide) (fun K hK => ?_)
        refine goes_ Tryd.func64 (by kernel_rfl) rfl #[.int .i64 a0_4] (by rfl) rfl rfl (by (try simp only [mT_, mC_, mN_]); first | done | rfl | (simp only [List.length_drop, List.length_take]; rfl)) ?_
        with_reducible refine (impl_digits.calls a0_4 t191 _ A8.out ?sT).mono ?_
        (case sT => first | with_reducible exact hT | exact Tab.Laid.below hT (by repeat (first | (with_reducible first | exact HB.out | apply hA_ | apply hN_ | apply hD_ | refine below_set ?_ GE190.out) | exact HB.out)))
        rintro e w15 ⟨rfl, hb⟩
        refine ⟨_, rfl, ?_⟩
        have n0 := aM_ (blk_below (g := gb190) (o := .cells #[.int .i64 a0_0, .int .i64 a0_1, .int .i64 a0_2, .int .i64 a0_3, .int .i64 a0_4] 46 (0, 0)) (by (with_reducible repeat (first | refine bN_ ?_ _ | refine bD_ ?_ | refine bA_ ?_ _)); exact BK190.out) hb)
        have n1 := aM_ (below_step (by repeat (first | (with_reducible first | exact HB.out | apply hA_ | apply hN_ | apply hD_ | refine below_set ?_ GE190.out) | exact HB.out)) hb)
        clear BK190
        clear HB
        have BK190 := n0
        have HB := n1
        clear n0 n1
        (try clear hb)
        (try clear hb2)
        (try clear hk)
        (try clear hi)
        refine hK.out _ _ ⟨(blk_cell BK190.out 0).trans rfl, (blk_cell BK190.out 1).trans rfl, (blk_cell BK190.out 2).trans rfl, (blk_cell BK190.out 3).trans rfl, (blk_cell BK190.out 4).trans rfl⟩ (fun hHeld => ?_)
        clear hK K
        refine norm_ (a' := ?_) ?_ ?_
        rotate_left
        ·show Act.put _ (some 13) _ = _
         simp only [pt_, pn_, sI_, s0_, s1_, i64_w, i32_w]
         rfl
        refine pure_ (i := 3) (N := some 14) (v := ?_) (a' := ?_) #[true, true, true, true, false, true, true, false, false, false, false] rfl rfl (any_of HT_.out (by kernel_rfl)) (fun _ _ _ h => h) (Or.inl ⟨by rfl, ?_⟩) ?_ ?_
        rotate_left
        ·intro w'
         go_simp
         with_reducible rfl
        rotate_left
        ·simp only [pt_, pn_, sI_, s0_, s1_, i64_w, i32_w]
         rfl
        refine pure_ (i := 4) (N := some 15) (v := ?_) (a' := ?_) #[true, true, true, true, true, true, true, false, false, false, false] rfl rfl (any_of HT_.out (by kernel_rfl)) (fun _ _ _ h => h) (Or.inl ⟨by rfl, ?_⟩) ?_ ?_
        rotate_left
        ·intro w'
         go_simp
         with_reducible rfl
        rotate_left
        ·simp only [pt_, pn_, sI_, s0_, s1_, i64_w, i32_w]
         rfl
        refine one_ (i := 7) (N := some 18) #[true, true, true, true, true, true, true, true, false, false, false] rfl rfl (one_of HT_.out (by kernel_rfl)) (by decide) (fun K hK => ?_)
        refine goes_ Tryd.func79 (by kernel_rfl) rfl #[.int .i64 a0_2] (by rfl) rfl rfl (by (try simp only [mT_, mC_, mN_]); first | done | rfl | (simp only [List.length_drop, List.length_take]; rfl)) ?_
        with_reducible refine (impl_reg.calls a0_2 t192 _ A11.out ?sT).mono ?_
        (case sT => first | with_reducible exact hT | exact Tab.Laid.below hT (by repeat (first | (with_reducible first | exact HB.out | apply hA_ | apply hN_ | apply hD_ | refine below_set ?_ GE190.out) | exact HB.out)))
        rintro e w16 ⟨rfl, hb⟩
        refine ⟨_, rfl, ?_⟩
        have n0 := aM_ (blk_below (g := gb190) (o := .cells #[.int .i64 a0_0, .int .i64 a0_1, .int .i64 a0_2, .int .i64 a0_3, .int .i64 a0_4] 46 (0, 0)) (by (with_reducible repeat (first | refine bN_ ?_ _ | refine bD_ ?_ | refine bA_ ?_ _)); exact BK190.out) hb)
        have n1 := aM_ (below_step (by repeat (first | (with_reducible first | exact HB.out | apply hA_ | apply hN_ | apply hD_ | refine below_set ?_ GE190.out) | exact HB.out)) hb)
        clear BK190
        clear HB
        have BK190 := n0
        have HB := n1
        clear n0 n1
        (try clear hb)
        (try clear hb2)
        (try clear hk)
        (try clear hi)
        refine hK.out _ _ ⟨(blk_cell BK190.out 0).trans rfl, (blk_cell BK190.out 1).trans rfl, (blk_cell BK190.out 2).trans rfl, (blk_cell BK190.out 3).trans rfl, (blk_cell BK190.out 4).trans rfl⟩ (fun hHeld => ?_)
        clear hK K
        refine norm_ (a' := ?_) ?_ ?_
        rotate_left
        ·show Act.put _ (some 18) _ = _
         simp only [pt_, pn_, sI_, s0_, s1_, i64_w, i32_w]
         rfl
        refine pure_ (i := 8) (N := some 19) (v := ?_) (a' := ?_) #[true, true, true, true, true, true, true, true, true, false, false] rfl rfl (any_of HT_.out (by kernel_rfl)) (fun _ _ _ h => h) (Or.inl ⟨by rfl, ?_⟩) ?_ ?_
        rotate_left
        ·intro w'
         go_simp
         with_reducible rfl
        rotate_left
        ·simp only [pt_, pn_, sI_, s0_, s1_, i64_w, i32_w]
         rfl
        refine pure_ (i := 9) (N := some 20) (v := ?_) (a' := ?_) #[true, true, true, true, true, true, true, true, true, true, false] rfl rfl (any_of HT_.out (by kernel_rfl)) (fun _ _ _ h => h) (Or.inl ⟨by rfl, ?_⟩) ?_ ?_
        rotate_left
        ·intro w'
         go_simp
         with_reducible rfl
        rotate_left
        ·simp only [pt_, pn_, sI_, s0_, s1_, i64_w, i32_w]
         rfl
        refine pure_ (i := 10) (N := some 2) (v := ?_) (a' := ?_) #[true, true, true, true, true, true, true, true, true, true, true] rfl rfl (any_of HT_.out (by kernel_rfl)) (fun _ _ _ h => h) (Or.inl ⟨by rfl, ?_⟩) ?_ ?_
        rotate_left
        ·intro w'
         go_simp
         with_reducible rfl
        rotate_left
        ·simp only [pt_, pn_, sI_, s0_, s1_, i64_w, i32_w]
         rfl
        refine done_ (done_of HT_.out (by kernel_rfl)) ?_
        try go_wp2
        go_ret
        exact ⟨by first | rfl | (simp [errW_none, errW_some] <;> rfl) | (simp [*, errW_none, errW_some] <;> rfl), by repeat (first | (with_reducible first | exact HB.out | apply hA_ | apply hN_ | apply hD_ | refine below_set ?_ GE190.out) | exact HB.out)⟩
       ·rw [if_neg c13] at H
        exact absurd H (by simp)
      ·rw [if_neg c12] at H
       exact absurd H (by simp)
     ·rw [if_neg c10] at H
      exact absurd H (by simp)
    ·rw [if_neg c9] at H
     exact absurd H (by simp)
   ·replace c7 := Bool.eq_false_iff.mpr c7
    subst c7
    have H1 : ((impl_digits.f a0_4).bind fun t193 => (if 1 + t193.size ≤ 9223372036854775807 then (if ((⟨#[91]⟩ : ByteArray) ++ t193).size + 1 ≤ 9223372036854775807 then (some (((⟨#[91]⟩ : ByteArray) ++ t193) ++ (⟨#[93]⟩ : ByteArray))) else (none)) else (none))) = some r := by rw [if_neg (show ¬ (false = true) by decide)] at H; exact H
    clear H
    have H := H1
    clear H1
    replace H := Option.bind_eq_some_iff.mp H
    obtain ⟨t193, A170, H⟩ := H
    replace H : (if 1 + t193.size ≤ 9223372036854775807 then (if ((⟨#[91]⟩ : ByteArray) ++ t193).size + 1 ≤ 9223372036854775807 then (some (((⟨#[91]⟩ : ByteArray) ++ t193) ++ (⟨#[93]⟩ : ByteArray))) else (none)) else (none)) = some r := H
    have A17 := aM_ A170
    clear A170
    by_cases c18 : 1 + t193.size ≤ 9223372036854775807
    ·rw [if_pos c18] at H
     have c18b0 := eq_true c18
     have c18b1 : decide (1 + t193.size ≤ 9223372036854775807) = true := decide_eq_true c18
     try have c18b2 : (9223372036854775807 < 1 + t193.size) = False := eq_false (Nat.not_lt.2 c18)
     by_cases c19 : ((⟨#[91]⟩ : ByteArray) ++ t193).size + 1 ≤ 9223372036854775807
     ·rw [if_pos c19] at H
      have c19b0 := eq_true c19
      have c19b1 : decide (((⟨#[91]⟩ : ByteArray) ++ t193).size + 1 ≤ 9223372036854775807) = true := decide_eq_true c19
      (try (have c19n := c19; simp only [ByteArray.size_append, Tab.sz_mk, List.size_toArray, List.length_cons, List.length_nil, Nat.zero_add, Nat.reduceAdd] at c19n; have c19b4 := eq_true c19n; have c19b5 := eq_false (Nat.not_lt.2 c19n)))
      try have c19b2 : (9223372036854775807 < ((⟨#[91]⟩ : ByteArray) ++ t193).size + 1) = False := eq_false (Nat.not_lt.2 c19)
      obtain rfl := Option.some.inj H
      have hcz20_0 : wc.cell? ⟨gb190, 0, none⟩ = some (.int .i64 a0_0) := (blk_cell BK190.out 0).trans rfl
      have hcz20_1 : wc.cell? ⟨gb190, 1, none⟩ = some (.int .i64 a0_1) := (blk_cell BK190.out 1).trans rfl
      have hcz20_2 : wc.cell? ⟨gb190, 2, none⟩ = some (.int .i64 a0_2) := (blk_cell BK190.out 2).trans rfl
      have hcz20_3 : wc.cell? ⟨gb190, 3, none⟩ = some (.int .i64 a0_3) := (blk_cell BK190.out 3).trans rfl
      have hcz20_4 : wc.cell? ⟨gb190, 4, none⟩ = some (.int .i64 a0_4) := (blk_cell BK190.out 4).trans rfl
      have hfz20_0 := blk_frozen BK190.out 0
      have hfz20_1 := blk_frozen BK190.out 1
      have hfz20_2 := blk_frozen BK190.out 2
      have hfz20_3 := blk_frozen BK190.out 3
      have hfz20_4 := blk_frozen BK190.out 4
      go_wp2_with (first | ((with_reducible refine gate_callee (f := 64) rfl ?_); refine goesL_ (some 23) rfl rfl Tryd.func64 (by kernel_rfl) rfl #[.int .i64 a0_4] rfl (by (try simp only [mT_, mC_, mN_]); first | done | rfl | (simp only [List.length_drop, List.length_take]; rfl)) ?_; (with_reducible refine (impl_digits.calls a0_4 t193 _ A17.out ?sT).mono ?_); (case sT => first | with_reducible exact hT | exact Tab.Laid.below hT (by repeat (first | (with_reducible first | exact HB.out | apply hA_ | apply hN_ | apply hD_ | refine below_set ?_ GE190.out) | exact HB.out))); rintro e w21 ⟨rfl, hb⟩; refine ⟨_, rfl, ?_⟩; have n0 := aM_ (blk_below (g := gb190) (o := .cells #[.int .i64 a0_0, .int .i64 a0_1, .int .i64 a0_2, .int .i64 a0_3, .int .i64 a0_4] 46 (0, 0)) (by (with_reducible repeat (first | refine bN_ ?_ _ | refine bD_ ?_ | refine bA_ ?_ _)); exact BK190.out) hb); have n1 := aM_ (below_step (by repeat (first | (with_reducible first | exact HB.out | apply hA_ | apply hN_ | apply hD_ | refine below_set ?_ GE190.out) | exact HB.out)) hb); clear BK190; clear HB; have BK190 := n0; have HB := n1; clear n0 n1))
      (all_goals try (exfalso; have e1_ : (⟨#[32]⟩ : ByteArray).size = 1 := rfl; have e2_ : (⟨#[10]⟩ : ByteArray).size = 1 := rfl; simp only [ByteArray.size_append] at c19; omega))
      go_ret
      exact ⟨by first | rfl | (simp [errW_none, errW_some] <;> rfl) | (simp [*, errW_none, errW_some] <;> rfl), by repeat (first | (with_reducible first | exact HB.out | apply hA_ | apply hN_ | apply hD_ | refine below_set ?_ GE190.out) | exact HB.out)⟩
     ·rw [if_neg c19] at H
      exact absurd H (by simp)
    ·rw [if_neg c18] at H
     exact absurd H (by simp)
end Go.Proofs.YtkjfcmgpplapeaaDoor.PFnExactCodeText
