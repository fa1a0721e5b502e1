/- A part of the proof that the law FnTexts holds for every input: the words, functions and walks that its row needs, without a condition of their own. -/
import Derived.Test.YtdbobicbbfmepaaDoorZFnTextsa4
import Derived.Test.YtdbobicbbfmepaaDoorZFnTextsa12
import Derived.Test.YtdbobicbbfmepaaDoorZFnTextsa14
import Derived.Test.YtdbobicbbfmepaaDoorZFnTextss
namespace Go.Proofs.YtdbobicbbfmepaaDoor.PFnTexts
open Go.RowKit Go.Proofs.YtdbobicbbfmepaaDoorW.PrintWords Go.Proofs.YtdbobicbbfmepaaDoorW.PrintLast Go.Proofs.YtdbobicbbfmepaaDoorW.PrintMore
attribute [local go_sem] max2_int min2_int max_two min_two max_three min_three max_four min_four   -- for this text's walks alone
set_option linter.unusedVariables false
set_option linter.unusedSimpArgs false
def spec_TraceText.l0 : Nat → List (S61) → ByteArray → Int → Option (ByteArray)
  | 0, _, _, _ => none
  | k + 1, x0, x3, x4 => if x4 < (x0.length : Int) then (if x4 > 0 then (if x3.size + 1 ≤ 9223372036854775807 then (if 0 ≤ x4 then ((spec_l2Digits.f k ((rd_T61 x0 x4).f0)).bind fun t491 => (if (x3 ++ (⟨#[32]⟩ : ByteArray)).size + t491.size ≤ 9223372036854775807 then (if ((x3 ++ (⟨#[32]⟩ : ByteArray)) ++ t491).size + 1 ≤ 9223372036854775807 then ((spec_l2Digits.f k ((rd_T61 x0 x4).f1)).bind fun t493 => (if (((x3 ++ (⟨#[32]⟩ : ByteArray)) ++ t491) ++ (⟨#[58]⟩ : ByteArray)).size + t493.size ≤ 9223372036854775807 then (spec_TraceText.l0 k x0 ((((x3 ++ (⟨#[32]⟩ : ByteArray)) ++ t491) ++ (⟨#[58]⟩ : ByteArray)) ++ t493) (wrap64 (x4 + 1))) else (none))) else (none)) else (none))) else (none)) else (none)) else (if 0 ≤ x4 then ((spec_l2Digits.f k ((rd_T61 x0 x4).f0)).bind fun t495 => (if x3.size + t495.size ≤ 9223372036854775807 then (if (x3 ++ t495).size + 1 ≤ 9223372036854775807 then ((spec_l2Digits.f k ((rd_T61 x0 x4).f1)).bind fun t497 => (if ((x3 ++ t495) ++ (⟨#[58]⟩ : ByteArray)).size + t497.size ≤ 9223372036854775807 then (spec_TraceText.l0 k x0 (((x3 ++ t495) ++ (⟨#[58]⟩ : ByteArray)) ++ t497) (wrap64 (x4 + 1))) else (none))) else (none)) else (none))) else (none))) else (if x3.toList = ([] : List UInt8) then (some (⟨#[45]⟩ : ByteArray)) else (some x3))
def spec_TraceText.f (k : Nat) (l0 : List (S61)) : Option (ByteArray) := spec_TraceText.l0 k l0 (⟨#[]⟩ : ByteArray) 0
def spec_TraceText.T7 : Bool × List (List Nat × List Nat) := (true, [([], []), ([], []), ([], []), ([1, 2], [1, 2]), ([3], [3]), ([4], [4]), ([5], [5]), ([0, 6], [0, 6]), ([7], [7]), ([], []), ([], []), ([9, 10], [9, 10]), ([11], [11]), ([12], [12]), ([13, 6], [13]), ([8, 14], [8, 14]), ([15, 14, 0, 1, 2, 3, 4, 5, 6, 7, 8, 9, 10, 11, 12, 13, 14, 15], [0, 15])])
def spec_TraceText.B7 : List Nat := [0, 0, 0, 6, 14, 30, 62, 127, 255, 0, 0, 1536, 3584, 7680, 15998, 32767, 65535]
theorem spec_TraceText.tab7 : rtab .any (opsOf Tryd.f17 7) = spec_TraceText.T7 := by kernel_rfl
theorem spec_TraceText.bits7 : waitsOk spec_TraceText.T7.2 spec_TraceText.B7 = true := by kernel_rfl
set_option maxHeartbeats 8000000 in
set_option maxRecDepth 100000 in
theorem spec_TraceText.calls (k : Nat) (A0 : Option Addr) (c0 : Nat) (l0 : List (S61)) (r : ByteArray) (w : World) (hr0 : Kd.C k61 w A0 l0.length l0) (hc0 : l0.length ≤ c0) (h : spec_TraceText.f k l0 = some r) :
  Calls Tryd.prog 17 #[.slice A0 l0.length c0] w fun e w' => e = .returned (.string r) ∧ Below w.heap.size w w' := by
 have HR0 := aM_ hr0
 have HC0 := aM_ hc0
 clear hr0 hc0
 have HB := aM_ (Below.refl w.heap.size w)
 have H : (spec_TraceText.l0 k l0 (⟨#[]⟩ : ByteArray) 0) = some r := h
 clear h
 have H' := aM_ H
 clear H
 go_enter Tryd.func17, Tryd.ntmps17
 go_wp2
 go_loopg [3, 4] k (fun kq v3 v4 w' => ∃ (x3_1 : ByteArray) (x4_1 : Int), v3 = .string x3_1 ∧ v4 = .int .i64 x4_1 ∧ Aside0 (spec_TraceText.l0 kq l0 x3_1 x4_1 = some r) ∧ Aside0 (kq ≤ k) ∧ Aside0 (Below w.heap.size w w'))
 case atStart => exact ⟨((⟨#[]⟩ : ByteArray)), (0), (by first | rfl | (simp; done) | (simp [*]; done)), (by first | rfl | (simp; done) | (simp [*]; done)), H', ⟨Nat.le_refl _⟩, ⟨gW_ HB.out⟩⟩
 case round =>
  clear H'
  try clear c1
  obtain ⟨x3_1, x4_1, rfl, rfl, HA, HK1, HB⟩ := hrel
  cases gk with
  | zero => exact absurd HA.out (by simp [spec_TraceText.l0])
  | succ k1 =>
   have H := HA.out
   clear HA
   simp only [spec_TraceText.l0] at H
   by_cases c2 : x4_1 < (l0.length : Int)
   ·rw [if_pos c2] at H
    have c2b0 : decide (x4_1 < (l0.length : Int)) = true := decide_eq_true c2
    clear c2
    by_cases c3 : x4_1 > 0
    ·rw [if_pos c3] at H
     have c3b0 : decide (0 < x4_1) = true := decide_eq_true c3
     clear c3
     by_cases c4 : x3_1.size + 1 ≤ 9223372036854775807
     ·rw [if_pos c4] at H
      have c4b0 := eq_true c4
      have c4b1 : decide (x3_1.size + 1 ≤ 9223372036854775807) = true := decide_eq_true c4
      try have c4b2 : (9223372036854775807 < x3_1.size + 1) = False := eq_false (Nat.not_lt.2 c4)
      by_cases c5 : 0 ≤ x4_1
      ·rw [if_pos c5] at H
       have c5b0 : decide (0 ≤ x4_1) = true := decide_eq_true c5
       clear c5
       replace H := Option.bind_eq_some_iff.mp H
       obtain ⟨t491, A60, H⟩ := H
       replace H : (if (x3_1 ++ (⟨#[32]⟩ : ByteArray)).size + t491.size ≤ 9223372036854775807 then (if ((x3_1 ++ (⟨#[32]⟩ : ByteArray)) ++ t491).size + 1 ≤ 9223372036854775807 then ((spec_l2Digits.f k1 ((rd_T61 l0 x4_1).f1)).bind fun t493 => (if (((x3_1 ++ (⟨#[32]⟩ : ByteArray)) ++ t491) ++ (⟨#[58]⟩ : ByteArray)).size + t493.size ≤ 9223372036854775807 then (spec_TraceText.l0 k1 l0 ((((x3_1 ++ (⟨#[32]⟩ : ByteArray)) ++ t491) ++ (⟨#[58]⟩ : ByteArray)) ++ t493) (wrap64 (x4_1 + 1))) else (none))) else (none)) else (none)) = some r := H
       have A6 := aM_ A60
       clear A60
       by_cases c7 : (x3_1 ++ (⟨#[32]⟩ : ByteArray)).size + t491.size ≤ 9223372036854775807
       ·rw [if_pos c7] at H
        have c7b0 := eq_true c7
        have c7b1 : decide ((x3_1 ++ (⟨#[32]⟩ : ByteArray)).size + t491.size ≤ 9223372036854775807) = true := decide_eq_true c7
        (try (have c7n := c7; simp only [ByteArray.size_append, Tab.sz_mk, List.size_toArray, List.length_cons, List.length_nil, Nat.zero_add, Nat.reduceAdd] at c7n; have c7b4 := eq_true c7n; have c7b5 := eq_false (Nat.not_lt.2 c7n)))
        try have c7b2 : (9223372036854775807 < (x3_1 ++ (⟨#[32]⟩ : ByteArray)).size + t491.size) = False := eq_false (Nat.not_lt.2 c7)
        by_cases c8 : ((x3_1 ++ (⟨#[32]⟩ : ByteArray)) ++ t491).size + 1 ≤ 9223372036854775807
        ·rw [if_pos c8] at H
         have c8b0 := eq_true c8
         have c8b1 : decide (((x3_1 ++ (⟨#[32]⟩ : ByteArray)) ++ t491).size + 1 ≤ 9223372036854775807) = true := decide_eq_true c8
         (try (have c8n := c8; simp only [ByteArray.size_append, Tab.sz_mk, List.size_toArray, List.length_cons, List.length_nil, Nat.zero_add, Nat.reduceAdd] at c8n; have c8b4 := eq_true c8n; have c8b5 := eq_false (Nat.not_lt.2 c8n)))
         try have c8b2 : (9223372036854775807 < ((x3_1 ++ (⟨#[32]⟩ : ByteArray)) ++ t491).size + 1) = False := eq_false (Nat.not_lt.2 c8)
         replace H := Option.bind_eq_some_iff.mp H
         obtain ⟨t493, A90, H⟩ := H
         replace H : (if (((x3_1 ++ (⟨#[32]⟩ : ByteArray)) ++ t491) ++ (⟨#[58]⟩ : ByteArray)).size + t493.size ≤ 9223372036854775807 then (spec_TraceText.l0 k1 l0 ((((x3_1 ++ (⟨#[32]⟩ : ByteArray)) ++ t491) ++ (⟨#[58]⟩ : ByteArray)) ++ t493) (wrap64 (x4_1 + 1))) else (none)) = some r := H
         have A9 := aM_ A90
         clear A90
         by_cases c10 : (((x3_1 ++ (⟨#[32]⟩ : ByteArray)) ++ t491) ++ (⟨#[58]⟩ : ByteArray)).size + t493.size ≤ 9223372036854775807
         ·rw [if_pos c10] at H
          have c10b0 := eq_true c10
          have c10b1 : decide ((((x3_1 ++ (⟨#[32]⟩ : ByteArray)) ++ t491) ++ (⟨#[58]⟩ : ByteArray)).size + t493.size ≤ 9223372036854775807) = true := decide_eq_true c10
          (try (have c10n := c10; simp only [ByteArray.size_append, Tab.sz_mk, List.size_toArray, List.length_cons, List.length_nil, Nat.zero_add, Nat.reduceAdd] at c10n; have c10b4 := eq_true c10n; have c10b5 := eq_false (Nat.not_lt.2 c10n)))
          try have c10b2 : (9223372036854775807 < (((x3_1 ++ (⟨#[32]⟩ : ByteArray)) ++ t491) ++ (⟨#[58]⟩ : ByteArray)).size + t493.size) = False := eq_false (Nat.not_lt.2 c10)
          have H' := aM_ H
          clear H
          try go_wp2
          have n0 := aM_ (below_drew1 HB.out)
          clear HB
          have HB := n0
          clear n0
          have p490 : 0 ≤ (x4_1 : Int) := of_decide_eq_true (by first | (with_reducible assumption) | assumption)
          have q490 : x4_1 < (l0.length : Int) := of_decide_eq_true (by first | (with_reducible assumption) | assumption)
          obtain ⟨ad490, e490, hx490_0, hx490_1⟩ := at_T61 HR0.out x4_1 p490 q490
          have hw490_1 := hx490_1
          have hw490_0 := hx490_0
          cases e490
          replace hx490_0 := cB_ HB.out hx490_0
          replace hx490_1 := cB_ HB.out hx490_1
          replace p490 := eq_true p490
          replace q490 := eq_true q490
          have p492 : 0 ≤ (x4_1 : Int) := of_decide_eq_true (by first | (with_reducible assumption) | assumption)
          have q492 : x4_1 < (l0.length : Int) := of_decide_eq_true (by first | (with_reducible assumption) | assumption)
          obtain ⟨ad492, e492, hx492_0, hx492_1⟩ := at_T61 HR0.out x4_1 p492 q492
          have hw492_1 := hx492_1
          have hw492_0 := hx492_0
          obtain rfl : ad490 = ad492 := (by injection e492)
          replace hx492_0 := cB_ HB.out hx492_0
          replace hx492_1 := cB_ HB.out hx492_1
          replace p492 := eq_true p492
          replace q492 := eq_true q492
          refine start_ (n := 17) (S := fun w' => w'.cell? (ad490.add ((x4_1).toNat * 2)) = some (.int .i64 ((rd_T61 l0 x4_1).f0)) ∧ w'.cell? ⟨(ad490.add ((x4_1).toNat * 2)).block, (ad490.add ((x4_1).toNat * 2)).off + 1, none⟩ = some (.int .i64 ((rd_T61 l0 x4_1).f1)) ∧ w'.cell? (ad490.add ((x4_1).toNat * 2)) = some (.int .i64 ((rd_T61 l0 x4_1).f0)) ∧ w'.cell? ⟨(ad490.add ((x4_1).toNat * 2)).block, (ad490.add ((x4_1).toNat * 2)).off + 1, none⟩ = some (.int .i64 ((rd_T61 l0 x4_1).f1))) (ds := []) (mk_ 17 0) (by kernel_rfl) rfl rfl ⟨(cB_ HB.out hw490_0 :), (cB_ HB.out hw490_1 :), (cB_ HB.out hw492_0 :), (cB_ HB.out hw492_1 :)⟩ (fun hHeld => ?_); refine with_tabW spec_TraceText.tab7 spec_TraceText.bits7 (fun HT_ HW_ => ?_)
          generalize wr.drew = w11 at HB hx490_0 hx490_1 hx492_0 hx492_1 hHeld ⊢
          refine pU_ 0 (some 15) (mk_ 17 1) ?_
          refine pU_ 1 (some 16) (mk_ 17 3) ?_
          refine pU_ 2 (some 17) (mk_ 17 7) ?_
          refine pU_ 3 (some 18) (mk_ 17 15) ?_
          refine pU_ 4 (some 19) (mk_ 17 31) ?_
          refine pU_ 9 (some 24) (mk_ 17 543) ?_
          refine pU_ 10 (some 25) (mk_ 17 1567) ?_
          refine pU_ 11 (some 26) (mk_ 17 3615) ?_
          refine pU_ 12 (some 27) (mk_ 17 7711) ?_
          refine tK4_ 5 (some 20) (mk_ 17 7743) ?_
          refine tK4_ 13 (some 28) (mk_ 17 15935) ?_
          refine oN_ 6 (some 21) (mk_ 17 15999) (fun K hK => ?_)
          refine gO_ Tryd.func47 #[.int .i64 ((rd_T61 l0 x4_1).f0)] ?_
          with_reducible refine (spec_l2Digits.calls k1 ((rd_T61 l0 x4_1).f0) t491 _ A6.out).mono ?_
          rintro e w12 ⟨rfl, hb⟩
          refine ⟨_, rfl, ?_⟩
          have n0 := aM_ (sT_ HB.out hb)
          clear HB
          have HB := n0
          clear n0
          (try clear hb)
          (try clear hb2)
          (try clear hk)
          (try clear hi)
          refine hK.out _ _ ⟨(cB_ HB.out hw490_0 :), (cB_ HB.out hw490_1 :), (cB_ HB.out hw492_0 :), (cB_ HB.out hw492_1 :)⟩ (fun hHeld => ?_)
          clear hK K
          refine norm_ (a' := ?_) ?_ ?_
          rotate_left
          ·show Act.put _ (some 21) _ = _
           simp only [pt_, pn_, sI_, s0_, s1_, i64_w, i32_w]
           rfl
          refine pU_ 7 (some 22) (mk_ 17 16127) ?_
          refine pU_ 8 (some 23) (mk_ 17 16383) ?_
          refine oN_ 14 (some 29) (mk_ 17 32767) (fun K hK => ?_)
          refine gO_ Tryd.func47 #[.int .i64 ((rd_T61 l0 x4_1).f1)] ?_
          with_reducible refine (spec_l2Digits.calls k1 ((rd_T61 l0 x4_1).f1) t493 _ A9.out).mono ?_
          rintro e w13 ⟨rfl, hb⟩
          refine ⟨_, rfl, ?_⟩
          have n0 := aM_ (sT_ HB.out hb)
          clear HB
          have HB := n0
          clear n0
          (try clear hb)
          (try clear hb2)
          (try clear hk)
          (try clear hi)
          refine hK.out _ _ ⟨(cB_ HB.out hw490_0 :), (cB_ HB.out hw490_1 :), (cB_ HB.out hw492_0 :), (cB_ HB.out hw492_1 :)⟩ (fun hHeld => ?_)
          clear hK K
          refine norm_ (a' := ?_) ?_ ?_
          rotate_left
          ·show Act.put _ (some 29) _ = _
           simp only [pt_, pn_, sI_, s0_, s1_, i64_w, i32_w]
           rfl
          refine pU_ 15 (some 30) (mk_ 17 65535) ?_
          refine pU_ 16 (some 3) (mk_ 17 131071) ?_
          refine done_ (done_of HT_.out (by kernel_rfl)) ?_
          try go_wp2
          go_roundg k1
          case measure => have := HK1.out; omega
          case rel => exact ⟨((((x3_1 ++ (⟨#[32]⟩ : ByteArray)) ++ t491) ++ (⟨#[58]⟩ : ByteArray)) ++ t493), (wrap64 (x4_1 + 1)), (by first | rfl | (simp; done) | (simp [*]; done)), (by first | rfl | (simp; done) | (simp [*]; done)), H', ⟨by have := HK1.out; omega⟩, ⟨gW_ HB.out⟩⟩
         ·rw [if_neg c10] at H
          exact absurd H (by simp)
        ·rw [if_neg c8] at H
         exact absurd H (by simp)
       ·rw [if_neg c7] at H
        exact absurd H (by simp)
      ·rw [if_neg c5] at H
       exact absurd H (by simp)
     ·rw [if_neg c4] at H
      exact absurd H (by simp)
    ·rw [if_neg c3] at H
     have c3b0 : decide (0 < x4_1) = false := decide_eq_false c3
     clear c3
     by_cases c14 : 0 ≤ x4_1
     ·rw [if_pos c14] at H
      have c14b0 : decide (0 ≤ x4_1) = true := decide_eq_true c14
      clear c14
      replace H := Option.bind_eq_some_iff.mp H
      obtain ⟨t495, A150, H⟩ := H
      replace H : (if x3_1.size + t495.size ≤ 9223372036854775807 then (if (x3_1 ++ t495).size + 1 ≤ 9223372036854775807 then ((spec_l2Digits.f k1 ((rd_T61 l0 x4_1).f1)).bind fun t497 => (if ((x3_1 ++ t495) ++ (⟨#[58]⟩ : ByteArray)).size + t497.size ≤ 9223372036854775807 then (spec_TraceText.l0 k1 l0 (((x3_1 ++ t495) ++ (⟨#[58]⟩ : ByteArray)) ++ t497) (wrap64 (x4_1 + 1))) else (none))) else (none)) else (none)) = some r := H
      have A15 := aM_ A150
      clear A150
      by_cases c16 : x3_1.size + t495.size ≤ 9223372036854775807
      ·rw [if_pos c16] at H
       have c16b0 := eq_true c16
       have c16b1 : decide (x3_1.size + t495.size ≤ 9223372036854775807) = true := decide_eq_true c16
       try have c16b2 : (9223372036854775807 < x3_1.size + t495.size) = False := eq_false (Nat.not_lt.2 c16)
       by_cases c17 : (x3_1 ++ t495).size + 1 ≤ 9223372036854775807
       ·rw [if_pos c17] at H
        have c17b0 := eq_true c17
        have c17b1 : decide ((x3_1 ++ t495).size + 1 ≤ 9223372036854775807) = true := decide_eq_true c17
        (try (have c17n := c17; simp only [ByteArray.size_append, Tab.sz_mk, List.size_toArray, List.length_cons, List.length_nil, Nat.zero_add, Nat.reduceAdd] at c17n; have c17b4 := eq_true c17n; have c17b5 := eq_false (Nat.not_lt.2 c17n)))
        try have c17b2 : (9223372036854775807 < (x3_1 ++ t495).size + 1) = False := eq_false (Nat.not_lt.2 c17)
        replace H := Option.bind_eq_some_iff.mp H
        obtain ⟨t497, A180, H⟩ := H
        replace H : (if ((x3_1 ++ t495) ++ (⟨#[58]⟩ : ByteArray)).size + t497.size ≤ 9223372036854775807 then (spec_TraceText.l0 k1 l0 (((x3_1 ++ t495) ++ (⟨#[58]⟩ : ByteArray)) ++ t497) (wrap64 (x4_1 + 1))) else (none)) = some r := H
        have A18 := aM_ A180
        clear A180
        by_cases c19 : ((x3_1 ++ t495) ++ (⟨#[58]⟩ : ByteArray)).size + t497.size ≤ 9223372036854775807
        ·rw [if_pos c19] at H
         have c19b0 := eq_true c19
         have c19b1 : decide (((x3_1 ++ t495) ++ (⟨#[58]⟩ : ByteArray)).size + t497.size ≤ 9223372036854775807) = true := decide_eq_true c19
         (try (have c19n := c19; simp only [ByteArray.size_append, Tab.sz_mk, List.size_toArray, List.length_cons, List.length_nil, Nat.zero_add, Nat.reduceAdd] at c19n; have c19b4 := eq_true c19n; have c19b5 := eq_false (Nat.not_lt.2 c19n)))
         try have c19b2 : (9223372036854775807 < ((x3_1 ++ t495) ++ (⟨#[58]⟩ : ByteArray)).size + t497.size) = False := eq_false (Nat.not_lt.2 c19)
         have H' := aM_ H
         clear H
         try go_wp2
         have n0 := aM_ (below_drew1 HB.out)
         clear HB
         have HB := n0
         clear n0
         have p494 : 0 ≤ (x4_1 : Int) := of_decide_eq_true (by first | (with_reducible assumption) | assumption)
         have q494 : x4_1 < (l0.length : Int) := of_decide_eq_true (by first | (with_reducible assumption) | assumption)
         obtain ⟨ad494, e494, hx494_0, hx494_1⟩ := at_T61 HR0.out x4_1 p494 q494
         have hw494_1 := hx494_1
         have hw494_0 := hx494_0
         cases e494
         replace hx494_0 := cB_ HB.out hx494_0
         replace hx494_1 := cB_ HB.out hx494_1
         replace p494 := eq_true p494
         replace q494 := eq_true q494
         have p496 : 0 ≤ (x4_1 : Int) := of_decide_eq_true (by first | (with_reducible assumption) | assumption)
         have q496 : x4_1 < (l0.length : Int) := of_decide_eq_true (by first | (with_reducible assumption) | assumption)
         obtain ⟨ad496, e496, hx496_0, hx496_1⟩ := at_T61 HR0.out x4_1 p496 q496
         have hw496_1 := hx496_1
         have hw496_0 := hx496_0
         obtain rfl : ad494 = ad496 := (by injection e496)
         replace hx496_0 := cB_ HB.out hx496_0
         replace hx496_1 := cB_ HB.out hx496_1
         replace p496 := eq_true p496
         replace q496 := eq_true q496
         refine start_ (n := 17) (S := fun w' => w'.cell? (ad494.add ((x4_1).toNat * 2)) = some (.int .i64 ((rd_T61 l0 x4_1).f0)) ∧ w'.cell? ⟨(ad494.add ((x4_1).toNat * 2)).block, (ad494.add ((x4_1).toNat * 2)).off + 1, none⟩ = some (.int .i64 ((rd_T61 l0 x4_1).f1)) ∧ w'.cell? (ad494.add ((x4_1).toNat * 2)) = some (.int .i64 ((rd_T61 l0 x4_1).f0)) ∧ w'.cell? ⟨(ad494.add ((x4_1).toNat * 2)).block, (ad494.add ((x4_1).toNat * 2)).off + 1, none⟩ = some (.int .i64 ((rd_T61 l0 x4_1).f1))) (ds := []) (mk_ 17 0) (by kernel_rfl) rfl rfl ⟨(cB_ HB.out hw494_0 :), (cB_ HB.out hw494_1 :), (cB_ HB.out hw496_0 :), (cB_ HB.out hw496_1 :)⟩ (fun hHeld => ?_); refine with_tabW spec_TraceText.tab7 spec_TraceText.bits7 (fun HT_ HW_ => ?_)
         generalize wr.drew = w20 at HB hx494_0 hx494_1 hx496_0 hx496_1 hHeld ⊢
         refine pU_ 0 (some 15) (mk_ 17 1) ?_
         refine pU_ 1 (some 16) (mk_ 17 3) ?_
         refine pU_ 2 (some 17) (mk_ 17 7) ?_
         refine pU_ 3 (some 18) (mk_ 17 15) ?_
         refine pU_ 4 (some 19) (mk_ 17 31) ?_
         refine pU_ 9 (some 24) (mk_ 17 543) ?_
         refine pU_ 10 (some 25) (mk_ 17 1567) ?_
         refine pU_ 11 (some 26) (mk_ 17 3615) ?_
         refine pU_ 12 (some 27) (mk_ 17 7711) ?_
         refine tK4_ 5 (some 20) (mk_ 17 7743) ?_
         refine tK4_ 13 (some 28) (mk_ 17 15935) ?_
         refine oN_ 6 (some 21) (mk_ 17 15999) (fun K hK => ?_)
         refine gO_ Tryd.func47 #[.int .i64 ((rd_T61 l0 x4_1).f0)] ?_
         with_reducible refine (spec_l2Digits.calls k1 ((rd_T61 l0 x4_1).f0) t495 _ A15.out).mono ?_
         rintro e w21 ⟨rfl, hb⟩
         refine ⟨_, rfl, ?_⟩
         have n0 := aM_ (sT_ HB.out hb)
         clear HB
         have HB := n0
         clear n0
         (try clear hb)
         (try clear hb2)
         (try clear hk)
         (try clear hi)
         refine hK.out _ _ ⟨(cB_ HB.out hw494_0 :), (cB_ HB.out hw494_1 :), (cB_ HB.out hw496_0 :), (cB_ HB.out hw496_1 :)⟩ (fun hHeld => ?_)
         clear hK K
         refine norm_ (a' := ?_) ?_ ?_
         rotate_left
         ·show Act.put _ (some 21) _ = _
          simp only [pt_, pn_, sI_, s0_, s1_, i64_w, i32_w]
          rfl
         refine pU_ 7 (some 22) (mk_ 17 16127) ?_
         refine pU_ 8 (some 23) (mk_ 17 16383) ?_
         refine oN_ 14 (some 29) (mk_ 17 32767) (fun K hK => ?_)
         refine gO_ Tryd.func47 #[.int .i64 ((rd_T61 l0 x4_1).f1)] ?_
         with_reducible refine (spec_l2Digits.calls k1 ((rd_T61 l0 x4_1).f1) t497 _ A18.out).mono ?_
         rintro e w22 ⟨rfl, hb⟩
         refine ⟨_, rfl, ?_⟩
         have n0 := aM_ (sT_ HB.out hb)
         clear HB
         have HB := n0
         clear n0
         (try clear hb)
         (try clear hb2)
         (try clear hk)
         (try clear hi)
         refine hK.out _ _ ⟨(cB_ HB.out hw494_0 :), (cB_ HB.out hw494_1 :), (cB_ HB.out hw496_0 :), (cB_ HB.out hw496_1 :)⟩ (fun hHeld => ?_)
         clear hK K
         refine norm_ (a' := ?_) ?_ ?_
         rotate_left
         ·show Act.put _ (some 29) _ = _
          simp only [pt_, pn_, sI_, s0_, s1_, i64_w, i32_w]
          rfl
         refine pU_ 15 (some 30) (mk_ 17 65535) ?_
         refine pU_ 16 (some 3) (mk_ 17 131071) ?_
         refine done_ (done_of HT_.out (by kernel_rfl)) ?_
         try go_wp2
         go_roundg k1
         case measure => have := HK1.out; omega
         case rel => exact ⟨(((x3_1 ++ t495) ++ (⟨#[58]⟩ : ByteArray)) ++ t497), (wrap64 (x4_1 + 1)), (by first | rfl | (simp; done) | (simp [*]; done)), (by first | rfl | (simp; done) | (simp [*]; done)), H', ⟨by have := HK1.out; omega⟩, ⟨gW_ HB.out⟩⟩
        ·rw [if_neg c19] at H
         exact absurd H (by simp)
       ·rw [if_neg c17] at H
        exact absurd H (by simp)
      ·rw [if_neg c16] at H
       exact absurd H (by simp)
     ·rw [if_neg c14] at H
      exact absurd H (by simp)
   ·rw [if_neg c2] at H
    have c2b0 : decide (x4_1 < (l0.length : Int)) = false := decide_eq_false c2
    clear c2
    by_cases c23 : x3_1.toList = ([] : List UInt8)
    ·rw [if_pos c23] at H
     have c23b0 : (x3_1.toList == ([] : List UInt8)) = true := beq_iff_eq.mpr c23
     have c23b1 : (x3_1.toList != ([] : List UInt8)) = false := bne_eq_false_iff_eq.mpr c23
     clear c23
     obtain rfl := Option.some.inj H
     go_wp2
     go_ret
     exact fI_ HB.out
    ·rw [if_neg c23] at H
     have c23b0 : (x3_1.toList == ([] : List UInt8)) = false := beq_eq_false_iff_ne.mpr c23
     have c23b1 : (x3_1.toList != ([] : List UInt8)) = true := bne_iff_ne.mpr c23
     obtain rfl := Option.some.inj H
     go_wp2
     go_ret
     exact fI_ HB.out
def spec_ChanOk.f (a0_0 : Int) (l0_1 : List Int) (a0_2 : Bool) : Option (Bool) := (spec_l1In.f a0_0 1 4).bind fun t499 => (if t499 = true then (some (decide ((l0_1.length : Int) ≤ a0_0))) else (some false))
set_option maxHeartbeats 8000000 in
set_option maxRecDepth 100000 in
theorem spec_ChanOk.calls (a0_0 : Int) (A0_1 : Option Addr) (c0_1 : Nat) (l0_1 : List Int) (a0_2 : Bool) (r : Bool) (w : World) (hr0_1 : Kd.C (Kd.int .i64) w A0_1 l0_1.length l0_1) (hc0_1 : l0_1.length ≤ c0_1) (h : spec_ChanOk.f a0_0 l0_1 a0_2 = some r) :
  Calls Tryd.prog 50 #[.agg #[.int .i64 a0_0, .slice A0_1 l0_1.length c0_1, .bool a0_2]] w fun e w' => e = .returned (.bool r) ∧ Below w.heap.size w w' := by
 have hu33 := Tryd.underlying33
 have HR0_1 := aM_ hr0_1
 have HC0_1 := aM_ hc0_1
 clear hr0_1 hc0_1
 have HB := aM_ (Below.refl w.heap.size w)
 have H : ((spec_l1In.f a0_0 1 4).bind fun t499 => (if t499 = true then (some (decide ((l0_1.length : Int) ≤ a0_0))) else (some false))) = some r := h
 clear h
 replace H := Option.bind_eq_some_iff.mp H
 obtain ⟨t499, A20, H⟩ := H
 replace H : (if t499 = true then (some (decide ((l0_1.length : Int) ≤ a0_0))) else (some false)) = some r := H
 have A2 := aM_ A20
 clear A20
 by_cases c3 : t499 = true
 ·subst c3
  have H1 : (some (decide ((l0_1.length : Int) ≤ a0_0))) = some r := by rw [if_pos rfl] at H; exact H
  clear H
  have H := H1
  clear H1
  obtain rfl := Option.some.inj H
  go_enter Tryd.func50, Tryd.ntmps50
  go_wp2_with (first | ((with_reducible refine gate_dst (N := 1) rfl ?_); (try (refine gate_guard (by rfl) ?_; dsimp only)); refine bX_ 1 (cs := #[.int .i64 a0_0, .slice A0_1 l0_1.length c0_1, .bool a0_2]) (t := 33) ?_; intro gb498 hg w4 hbox hb; have n0 := aM_ (sT_ HB.out hb); have n1 := aM_ (hbox); have n2 := aM_ (sZ_ hg HB.out); have n3 := aM_ (sZ_ hg HB.out); clear HB; have HB := n0; have BK498 := n1; have GW498 := n2; have GE498 := n3; clear n0 n1 n2 n3; clear hb hbox hg; obtain ⟨hcz5_0, hcz5_1, hcz5_2, hfz5_0, hfz5_1, hfz5_2⟩ := bR3_ BK498.out) | ((with_reducible refine gate_callee (f := 86) rfl ?_); refine gL_ (some 5) Tryd.func86 #[.int .i64 a0_0, .int .i64 1, .int .i64 4] ?_; (with_reducible refine (spec_l1In.calls a0_0 1 4 true _ A2.out).mono ?_); rintro e w' ⟨rfl, ⟨nd, rfl⟩⟩; refine ⟨_, rfl, ?_⟩))
  go_ret
  exact fI_ HB.out
 ·replace c3 := Bool.eq_false_iff.mpr c3
  subst c3
  have H1 : (some false) = some r := by rw [if_neg (show ¬ (false = true) by decide)] at H; exact H
  clear H
  have H := H1
  clear H1
  obtain rfl := Option.some.inj H
  go_enter Tryd.func50, Tryd.ntmps50
  go_wp2_with (first | ((with_reducible refine gate_dst (N := 1) rfl ?_); (try (refine gate_guard (by rfl) ?_; dsimp only)); refine bX_ 1 (cs := #[.int .i64 a0_0, .slice A0_1 l0_1.length c0_1, .bool a0_2]) (t := 33) ?_; intro gb498 hg w6 hbox hb; have n0 := aM_ (sT_ HB.out hb); have n1 := aM_ (hbox); have n2 := aM_ (sZ_ hg HB.out); have n3 := aM_ (sZ_ hg HB.out); clear HB; have HB := n0; have BK498 := n1; have GW498 := n2; have GE498 := n3; clear n0 n1 n2 n3; clear hb hbox hg; obtain ⟨hcz7_0, hcz7_1, hcz7_2, hfz7_0, hfz7_1, hfz7_2⟩ := bR3_ BK498.out) | ((with_reducible refine gate_callee (f := 86) rfl ?_); refine gL_ (some 5) Tryd.func86 #[.int .i64 a0_0, .int .i64 1, .int .i64 4] ?_; (with_reducible refine (spec_l1In.calls a0_0 1 4 false _ A2.out).mono ?_); rintro e w' ⟨rfl, ⟨nd, rfl⟩⟩; refine ⟨_, rfl, ?_⟩))
  go_ret
  exact fI_ HB.out
def spec_ChanText.l0 : Nat → ByteArray → Int → Int → List Int → Bool → Option (ByteArray)
  | 0, _, _, _, _, _ => none
  | k + 1, x3, x4, x501000, x501001, x501002 => if x4 < (x501001.length : Int) then (if x4 > 0 then (if x3.size + 1 ≤ 9223372036854775807 then (if 0 ≤ x4 then ((spec_l2Digits.f k (rd x501001 x4)).bind fun t503 => (if (x3 ++ (⟨#[32]⟩ : ByteArray)).size + t503.size ≤ 9223372036854775807 then (spec_ChanText.l0 k ((x3 ++ (⟨#[32]⟩ : ByteArray)) ++ t503) (wrap64 (x4 + 1)) x501000 x501001 x501002) else (none))) else (none)) else (none)) else (if 0 ≤ x4 then ((spec_l2Digits.f k (rd x501001 x4)).bind fun t505 => (if x3.size + t505.size ≤ 9223372036854775807 then (spec_ChanText.l0 k (x3 ++ t505) (wrap64 (x4 + 1)) x501000 x501001 x501002) else (none))) else (none))) else (if x3.size + 1 ≤ 9223372036854775807 then ((spec_l2Digits.f k (wrap64 (x501000 - (x501001.length : Int)))).bind fun t506 => (if (x3 ++ (⟨#[93]⟩ : ByteArray)).size + t506.size ≤ 9223372036854775807 then (if x501002 = true then (if ((x3 ++ (⟨#[93]⟩ : ByteArray)) ++ t506).size + 1 ≤ 9223372036854775807 then (some (((x3 ++ (⟨#[93]⟩ : ByteArray)) ++ t506) ++ (⟨#[33]⟩ : ByteArray))) else (none)) else (some ((x3 ++ (⟨#[93]⟩ : ByteArray)) ++ t506))) else (none))) else (none))
def spec_ChanText.f (k : Nat) (a0_0 : Int) (l0_1 : List Int) (a0_2 : Bool) : Option (ByteArray) := (spec_ChanOk.f a0_0 l0_1 a0_2).bind fun t501 => (if t501 = true then (spec_ChanText.l0 k (⟨#[91]⟩ : ByteArray) 0 a0_0 l0_1 a0_2) else (some (⟨#[]⟩ : ByteArray)))
set_option maxHeartbeats 8000000 in
set_option maxRecDepth 100000 in
theorem spec_ChanText.calls (k : Nat) (a0_0 : Int) (A0_1 : Option Addr) (c0_1 : Nat) (l0_1 : List Int) (a0_2 : Bool) (r : ByteArray) (w : World) (hr0_1 : Kd.C (Kd.int .i64) w A0_1 l0_1.length l0_1) (hc0_1 : l0_1.length ≤ c0_1) (h : spec_ChanText.f k a0_0 l0_1 a0_2 = some r) :
  Calls Tryd.prog 18 #[.agg #[.int .i64 a0_0, .slice A0_1 l0_1.length c0_1, .bool a0_2]] w fun e w' => e = .returned (.string r) ∧ Below w.heap.size w w' := by
 have hu33 := Tryd.underlying33
 have HR0_1 := aM_ hr0_1
 have HC0_1 := aM_ hc0_1
 clear hr0_1 hc0_1
 have HB := aM_ (Below.refl w.heap.size w)
 have H : ((spec_ChanOk.f a0_0 l0_1 a0_2).bind fun t501 => (if t501 = true then (spec_ChanText.l0 k (⟨#[91]⟩ : ByteArray) 0 a0_0 l0_1 a0_2) else (some (⟨#[]⟩ : ByteArray)))) = some r := h
 clear h
 replace H := Option.bind_eq_some_iff.mp H
 obtain ⟨t501, A20, H⟩ := H
 replace H : (if t501 = true then (spec_ChanText.l0 k (⟨#[91]⟩ : ByteArray) 0 a0_0 l0_1 a0_2) else (some (⟨#[]⟩ : ByteArray))) = some r := H
 have A2 := aM_ A20
 clear A20
 by_cases c3 : t501 = true
 ·subst c3
  have H1 : (spec_ChanText.l0 k (⟨#[91]⟩ : ByteArray) 0 a0_0 l0_1 a0_2) = some r := by rw [if_pos rfl] at H; exact H
  clear H
  have H := H1
  clear H1
  have H' := aM_ H
  clear H
  go_enter Tryd.func18, Tryd.ntmps18
  go_wp2_with (first | ((with_reducible refine gate_dst (N := 1) rfl ?_); refine bX_ 1 (cs := #[.int .i64 a0_0, .slice A0_1 l0_1.length c0_1, .bool a0_2]) (t := 33) ?_; intro gb500 hg w4 hbox hb; have n0 := aM_ (sT_ HB.out hb); have n1 := aM_ (hbox); have n2 := aM_ (sZ_ hg HB.out); have n3 := aM_ (sZ_ hg HB.out); clear HB; have HB := n0; have BK500 := n1; have GW500 := n2; have GE500 := n3; clear n0 n1 n2 n3; clear hb hbox hg; obtain ⟨hcz5_0, hcz5_1, hcz5_2, hfz5_0, hfz5_1, hfz5_2⟩ := bR3_ BK500.out) | ((with_reducible refine gate_callee (f := 50) rfl ?_); refine gL_ (some 6) Tryd.func50 #[.agg #[.int .i64 a0_0, .slice A0_1 l0_1.length c0_1, .bool a0_2]] ?_; (with_reducible refine (spec_ChanOk.calls a0_0 _ _ l0_1 a0_2 true _ ?side1 ?side2 A2.out).mono ?_); (case side1 => exact cS_ (Kd.C_below HR0_1.out HB.out)); (case side2 => exact HC0_1.out); rintro e w6 ⟨rfl, hb⟩; refine ⟨_, rfl, ?_⟩; have n0 := aM_ (nB_ BK500.out hb); have n1 := aM_ (sT_ HB.out hb); clear BK500; clear HB; have BK500 := n0; have HB := n1; clear n0 n1))
  go_loopg [3, 4] k (fun kq v3 v4 w' => ∃ (x3_1 : ByteArray) (x4_1 : Int), v3 = .string x3_1 ∧ v4 = .int .i64 x4_1 ∧ Aside0 (spec_ChanText.l0 kq x3_1 x4_1 a0_0 l0_1 a0_2 = some r) ∧ Aside0 (kq ≤ k) ∧ Aside0 (w'.heap[gb500]? = some (.cells #[.int .i64 a0_0, (.slice A0_1 l0_1.length c0_1), .bool a0_2] 33 (0, 0))) ∧ Aside0 (Below w.heap.size w w'))
  case atStart => exact ⟨((⟨#[91]⟩ : ByteArray)), (0), (by first | rfl | (simp; done) | (simp [*]; done)), (by first | rfl | (simp; done) | (simp [*]; done)), H', ⟨Nat.le_refl _⟩, ⟨rW_ BK500.out⟩, ⟨gW_ HB.out⟩⟩
  case round =>
   clear H'
   try clear c1
   try clear p2
   try clear c3
   try clear c5
   try clear hcz5_0 hcz5_1 hcz5_2 hfz5_0 hfz5_1 hfz5_2
   obtain ⟨x3_1, x4_1, rfl, rfl, HA, HK1, BK500, HB⟩ := hrel
   cases gk with
   | zero => exact absurd HA.out (by simp [spec_ChanText.l0])
   | succ k1 =>
    have H := HA.out
    clear HA
    simp only [spec_ChanText.l0] at H
    by_cases c7 : x4_1 < (l0_1.length : Int)
    ·rw [if_pos c7] at H
     have c7b0 : decide (x4_1 < (l0_1.length : Int)) = true := decide_eq_true c7
     clear c7
     by_cases c8 : x4_1 > 0
     ·rw [if_pos c8] at H
      have c8b0 : decide (0 < x4_1) = true := decide_eq_true c8
      clear c8
      by_cases c9 : x3_1.size + 1 ≤ 9223372036854775807
      ·rw [if_pos c9] at H
       have c9b0 := eq_true c9
       have c9b1 : decide (x3_1.size + 1 ≤ 9223372036854775807) = true := decide_eq_true c9
       try have c9b2 : (9223372036854775807 < x3_1.size + 1) = False := eq_false (Nat.not_lt.2 c9)
       by_cases c10 : 0 ≤ x4_1
       ·rw [if_pos c10] at H
        have c10b0 : decide (0 ≤ x4_1) = true := decide_eq_true c10
        clear c10
        replace H := Option.bind_eq_some_iff.mp H
        obtain ⟨t503, A110, H⟩ := H
        replace H : (if (x3_1 ++ (⟨#[32]⟩ : ByteArray)).size + t503.size ≤ 9223372036854775807 then (spec_ChanText.l0 k1 ((x3_1 ++ (⟨#[32]⟩ : ByteArray)) ++ t503) (wrap64 (x4_1 + 1)) a0_0 l0_1 a0_2) else (none)) = some r := H
        have A11 := aM_ A110
        clear A110
        by_cases c12 : (x3_1 ++ (⟨#[32]⟩ : ByteArray)).size + t503.size ≤ 9223372036854775807
        ·rw [if_pos c12] at H
         have c12b0 := eq_true c12
         have c12b1 : decide ((x3_1 ++ (⟨#[32]⟩ : ByteArray)).size + t503.size ≤ 9223372036854775807) = true := decide_eq_true c12
         (try (have c12n := c12; simp only [ByteArray.size_append, Tab.sz_mk, List.size_toArray, List.length_cons, List.length_nil, Nat.zero_add, Nat.reduceAdd] at c12n; have c12b4 := eq_true c12n; have c12b5 := eq_false (Nat.not_lt.2 c12n)))
         try have c12b2 : (9223372036854775807 < (x3_1 ++ (⟨#[32]⟩ : ByteArray)).size + t503.size) = False := eq_false (Nat.not_lt.2 c12)
         have H' := aM_ H
         clear H
         obtain ⟨hcz13_0, hcz13_1, hcz13_2, hfz13_0, hfz13_1, hfz13_2⟩ := bR3_ BK500.out
         have p502 : 0 ≤ (x4_1 : Int) := of_decide_eq_true (by first | (with_reducible assumption) | assumption)
         have q502 : x4_1 < (l0_1.length : Int) := of_decide_eq_true (by first | (with_reducible assumption) | assumption)
         obtain ⟨ad502, e502, hx502_0⟩ := Kd.at_int HR0_1.out x4_1 p502 q502
         cases e502
         replace hx502_0 := cB_ HB.out hx502_0
         replace p502 := eq_true p502
         replace q502 := eq_true q502
         go_wp2_with (first | ((with_reducible refine gate_callee (f := 47) rfl ?_); refine gL_ (some 25) Tryd.func47 #[.int .i64 (rd l0_1 x4_1)] ?_; (with_reducible refine (spec_l2Digits.calls k1 (rd l0_1 x4_1) t503 _ A11.out).mono ?_); rintro e w14 ⟨rfl, hb⟩; refine ⟨_, rfl, ?_⟩; have n0 := aM_ (nB_ BK500.out hb); have n1 := aM_ (sT_ HB.out hb); clear BK500; clear HB; have BK500 := n0; have HB := n1; clear n0 n1))
         (all_goals try (exfalso; have e1_ : (⟨#[32]⟩ : ByteArray).size = 1 := rfl; have e2_ : (⟨#[10]⟩ : ByteArray).size = 1 := rfl; simp only [ByteArray.size_append] at c12; omega))
         go_roundg k1
         case measure => have := HK1.out; omega
         case rel => exact ⟨((x3_1 ++ (⟨#[32]⟩ : ByteArray)) ++ t503), (wrap64 (x4_1 + 1)), (by first | rfl | (simp; done) | (simp [*]; done)), (by first | rfl | (simp; done) | (simp [*]; done)), H', ⟨by have := HK1.out; omega⟩, ⟨rW_ BK500.out⟩, ⟨gW_ HB.out⟩⟩
        ·rw [if_neg c12] at H
         exact absurd H (by simp)
       ·rw [if_neg c10] at H
        exact absurd H (by simp)
      ·rw [if_neg c9] at H
       exact absurd H (by simp)
     ·rw [if_neg c8] at H
      have c8b0 : decide (0 < x4_1) = false := decide_eq_false c8
      clear c8
      by_cases c15 : 0 ≤ x4_1
      ·rw [if_pos c15] at H
       have c15b0 : decide (0 ≤ x4_1) = true := decide_eq_true c15
       clear c15
       replace H := Option.bind_eq_some_iff.mp H
       obtain ⟨t505, A160, H⟩ := H
       replace H : (if x3_1.size + t505.size ≤ 9223372036854775807 then (spec_ChanText.l0 k1 (x3_1 ++ t505) (wrap64 (x4_1 + 1)) a0_0 l0_1 a0_2) else (none)) = some r := H
       have A16 := aM_ A160
       clear A160
       by_cases c17 : x3_1.size + t505.size ≤ 9223372036854775807
       ·rw [if_pos c17] at H
        have c17b0 := eq_true c17
        have c17b1 : decide (x3_1.size + t505.size ≤ 9223372036854775807) = true := decide_eq_true c17
        try have c17b2 : (9223372036854775807 < x3_1.size + t505.size) = False := eq_false (Nat.not_lt.2 c17)
        have H' := aM_ H
        clear H
        obtain ⟨hcz18_0, hcz18_1, hcz18_2, hfz18_0, hfz18_1, hfz18_2⟩ := bR3_ BK500.out
        have p504 : 0 ≤ (x4_1 : Int) := of_decide_eq_true (by first | (with_reducible assumption) | assumption)
        have q504 : x4_1 < (l0_1.length : Int) := of_decide_eq_true (by first | (with_reducible assumption) | assumption)
        obtain ⟨ad504, e504, hx504_0⟩ := Kd.at_int HR0_1.out x4_1 p504 q504
        cases e504
        replace hx504_0 := cB_ HB.out hx504_0
        replace p504 := eq_true p504
        replace q504 := eq_true q504
        go_wp2_with (first | ((with_reducible refine gate_callee (f := 47) rfl ?_); refine gL_ (some 25) Tryd.func47 #[.int .i64 (rd l0_1 x4_1)] ?_; (with_reducible refine (spec_l2Digits.calls k1 (rd l0_1 x4_1) t505 _ A16.out).mono ?_); rintro e w19 ⟨rfl, hb⟩; refine ⟨_, rfl, ?_⟩; have n0 := aM_ (nB_ BK500.out hb); have n1 := aM_ (sT_ HB.out hb); clear BK500; clear HB; have BK500 := n0; have HB := n1; clear n0 n1))
        go_roundg k1
        case measure => have := HK1.out; omega
        case rel => exact ⟨(x3_1 ++ t505), (wrap64 (x4_1 + 1)), (by first | rfl | (simp; done) | (simp [*]; done)), (by first | rfl | (simp; done) | (simp [*]; done)), H', ⟨by have := HK1.out; omega⟩, ⟨rW_ BK500.out⟩, ⟨gW_ HB.out⟩⟩
       ·rw [if_neg c17] at H
        exact absurd H (by simp)
      ·rw [if_neg c15] at H
       exact absurd H (by simp)
    ·rw [if_neg c7] at H
     have c7b0 : decide (x4_1 < (l0_1.length : Int)) = false := decide_eq_false c7
     clear c7
     by_cases c20 : x3_1.size + 1 ≤ 9223372036854775807
     ·rw [if_pos c20] at H
      have c20b0 := eq_true c20
      have c20b1 : decide (x3_1.size + 1 ≤ 9223372036854775807) = true := decide_eq_true c20
      try have c20b2 : (9223372036854775807 < x3_1.size + 1) = False := eq_false (Nat.not_lt.2 c20)
      replace H := Option.bind_eq_some_iff.mp H
      obtain ⟨t506, A210, H⟩ := H
      replace H : (if (x3_1 ++ (⟨#[93]⟩ : ByteArray)).size + t506.size ≤ 9223372036854775807 then (if a0_2 = true then (if ((x3_1 ++ (⟨#[93]⟩ : ByteArray)) ++ t506).size + 1 ≤ 9223372036854775807 then (some (((x3_1 ++ (⟨#[93]⟩ : ByteArray)) ++ t506) ++ (⟨#[33]⟩ : ByteArray))) else (none)) else (some ((x3_1 ++ (⟨#[93]⟩ : ByteArray)) ++ t506))) else (none)) = some r := H
      have A21 := aM_ A210
      clear A210
      by_cases c22 : (x3_1 ++ (⟨#[93]⟩ : ByteArray)).size + t506.size ≤ 9223372036854775807
      ·rw [if_pos c22] at H
       have c22b0 := eq_true c22
       have c22b1 : decide ((x3_1 ++ (⟨#[93]⟩ : ByteArray)).size + t506.size ≤ 9223372036854775807) = true := decide_eq_true c22
       (try (have c22n := c22; simp only [ByteArray.size_append, Tab.sz_mk, List.size_toArray, List.length_cons, List.length_nil, Nat.zero_add, Nat.reduceAdd] at c22n; have c22b4 := eq_true c22n; have c22b5 := eq_false (Nat.not_lt.2 c22n)))
       try have c22b2 : (9223372036854775807 < (x3_1 ++ (⟨#[93]⟩ : ByteArray)).size + t506.size) = False := eq_false (Nat.not_lt.2 c22)
       by_cases c23 : a0_2 = true
       ·subst c23
        have H1 : (if ((x3_1 ++ (⟨#[93]⟩ : ByteArray)) ++ t506).size + 1 ≤ 9223372036854775807 then (some (((x3_1 ++ (⟨#[93]⟩ : ByteArray)) ++ t506) ++ (⟨#[33]⟩ : ByteArray))) else (none)) = some r := by rw [if_pos rfl] at H; exact H
        clear H
        have H := H1
        clear H1
        by_cases c24 : ((x3_1 ++ (⟨#[93]⟩ : ByteArray)) ++ t506).size + 1 ≤ 9223372036854775807
        ·rw [if_pos c24] at H
         have c24b0 := eq_true c24
         have c24b1 : decide (((x3_1 ++ (⟨#[93]⟩ : ByteArray)) ++ t506).size + 1 ≤ 9223372036854775807) = true := decide_eq_true c24
         (try (have c24n := c24; simp only [ByteArray.size_append, Tab.sz_mk, List.size_toArray, List.length_cons, List.length_nil, Nat.zero_add, Nat.reduceAdd] at c24n; have c24b4 := eq_true c24n; have c24b5 := eq_false (Nat.not_lt.2 c24n)))
         try have c24b2 : (9223372036854775807 < ((x3_1 ++ (⟨#[93]⟩ : ByteArray)) ++ t506).size + 1) = False := eq_false (Nat.not_lt.2 c24)
         obtain rfl := Option.some.inj H
         obtain ⟨hcz25_0, hcz25_1, hcz25_2, hfz25_0, hfz25_1, hfz25_2⟩ := bR3_ BK500.out
         go_wp2_with (first | ((with_reducible refine gate_callee (f := 47) rfl ?_); refine gL_ (some 35) Tryd.func47 #[.int .i64 (wrap64 (a0_0 - (l0_1.length : Int)))] ?_; (with_reducible refine (spec_l2Digits.calls k1 (wrap64 (a0_0 - (l0_1.length : Int))) t506 _ A21.out).mono ?_); rintro e w26 ⟨rfl, hb⟩; refine ⟨_, rfl, ?_⟩; have n0 := aM_ (nB_ BK500.out hb); have n1 := aM_ (sT_ HB.out hb); clear BK500; clear HB; have BK500 := n0; have HB := n1; clear n0 n1; obtain ⟨hcz27_0, hcz27_1, hcz27_2, hfz27_0, hfz27_1, hfz27_2⟩ := bR3_ BK500.out))
         (all_goals try (exfalso; have e1_ : (⟨#[32]⟩ : ByteArray).size = 1 := rfl; have e2_ : (⟨#[10]⟩ : ByteArray).size = 1 := rfl; simp only [ByteArray.size_append] at c22; omega))
         (all_goals try (exfalso; have e1_ : (⟨#[32]⟩ : ByteArray).size = 1 := rfl; have e2_ : (⟨#[10]⟩ : ByteArray).size = 1 := rfl; simp only [ByteArray.size_append] at c24; omega))
         go_ret
         exact fI_ HB.out
        ·rw [if_neg c24] at H
         exact absurd H (by simp)
       ·replace c23 := Bool.eq_false_iff.mpr c23
        subst c23
        have H1 : (some ((x3_1 ++ (⟨#[93]⟩ : ByteArray)) ++ t506)) = some r := by rw [if_neg (show ¬ (false = true) by decide)] at H; exact H
        clear H
        have H := H1
        clear H1
        obtain rfl := Option.some.inj H
        obtain ⟨hcz28_0, hcz28_1, hcz28_2, hfz28_0, hfz28_1, hfz28_2⟩ := bR3_ BK500.out
        go_wp2_with (first | ((with_reducible refine gate_callee (f := 47) rfl ?_); refine gL_ (some 35) Tryd.func47 #[.int .i64 (wrap64 (a0_0 - (l0_1.length : Int)))] ?_; (with_reducible refine (spec_l2Digits.calls k1 (wrap64 (a0_0 - (l0_1.length : Int))) t506 _ A21.out).mono ?_); rintro e w29 ⟨rfl, hb⟩; refine ⟨_, rfl, ?_⟩; have n0 := aM_ (nB_ BK500.out hb); have n1 := aM_ (sT_ HB.out hb); clear BK500; clear HB; have BK500 := n0; have HB := n1; clear n0 n1; obtain ⟨hcz30_0, hcz30_1, hcz30_2, hfz30_0, hfz30_1, hfz30_2⟩ := bR3_ BK500.out))
        (all_goals try (exfalso; have e1_ : (⟨#[32]⟩ : ByteArray).size = 1 := rfl; have e2_ : (⟨#[10]⟩ : ByteArray).size = 1 := rfl; simp only [ByteArray.size_append] at c22; omega))
        go_ret
        exact fI_ HB.out
      ·rw [if_neg c22] at H
       exact absurd H (by simp)
     ·rw [if_neg c20] at H
      exact absurd H (by simp)
 ·replace c3 := Bool.eq_false_iff.mpr c3
  subst c3
  have H1 : (some (⟨#[]⟩ : ByteArray)) = some r := by rw [if_neg (show ¬ (false = true) by decide)] at H; exact H
  clear H
  have H := H1
  clear H1
  obtain rfl := Option.some.inj H
  go_enter Tryd.func18, Tryd.ntmps18
  go_wp2_with (first | ((with_reducible refine gate_dst (N := 1) rfl ?_); refine bX_ 1 (cs := #[.int .i64 a0_0, .slice A0_1 l0_1.length c0_1, .bool a0_2]) (t := 33) ?_; intro gb500 hg w31 hbox hb; have n0 := aM_ (sT_ HB.out hb); have n1 := aM_ (hbox); have n2 := aM_ (sZ_ hg HB.out); have n3 := aM_ (sZ_ hg HB.out); clear HB; have HB := n0; have BK500 := n1; have GW500 := n2; have GE500 := n3; clear n0 n1 n2 n3; clear hb hbox hg; obtain ⟨hcz32_0, hcz32_1, hcz32_2, hfz32_0, hfz32_1, hfz32_2⟩ := bR3_ BK500.out) | ((with_reducible refine gate_callee (f := 50) rfl ?_); refine gL_ (some 6) Tryd.func50 #[.agg #[.int .i64 a0_0, .slice A0_1 l0_1.length c0_1, .bool a0_2]] ?_; (with_reducible refine (spec_ChanOk.calls a0_0 _ _ l0_1 a0_2 false _ ?side1 ?side2 A2.out).mono ?_); (case side1 => exact cS_ (Kd.C_below HR0_1.out HB.out)); (case side2 => exact HC0_1.out); rintro e w33 ⟨rfl, hb⟩; refine ⟨_, rfl, ?_⟩; have n0 := aM_ (nB_ BK500.out hb); have n1 := aM_ (sT_ HB.out hb); clear BK500; clear HB; have BK500 := n0; have HB := n1; clear n0 n1))
  go_ret
  exact fI_ HB.out
end Go.Proofs.YtdbobicbbfmepaaDoor.PFnTexts
