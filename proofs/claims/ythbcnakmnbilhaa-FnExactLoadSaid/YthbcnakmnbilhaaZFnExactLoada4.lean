/- A part of the proof that the law FnExactLoad holds for every input: the words, functions and walks that its row needs, without a condition of their own. -/
import Derived.Test.YthbcnakmnbilhaaZFnExactLoada2
import Derived.Test.YthbcnakmnbilhaaZFnExactLoada3
import Derived.Test.YthbcnakmnbilhaaZFnExactLoads
namespace Go.Proofs.Ythbcnakmnbilhaa.PFnExactLoad
open Go.RowKit Go.Proofs.YthbcnakmnbilhaaW.PrintWords Go.Proofs.YthbcnakmnbilhaaW.PrintLast Go.Proofs.YthbcnakmnbilhaaW.PrintMore
attribute [local go_sem] max2_int min2_int max_two min_two max_three min_three max_four min_four   -- for this text's walks alone
set_option linter.unusedVariables false
set_option linter.unusedSimpArgs false
mutual
def impl_MemoryOk.l0 : Nat → List (List (S43)) → Int → Int → List (List (S43)) → Option (Bool)
  | 0, _, _, _, _ => none
  | k + 1, x8, x9, x10, x123000 => if x10 < x9 then (if 0 ≤ x10 then (if x10 < (x8.length : Int) then ((impl_within.f ((rd_L3 x8 x10).length : Int) 1 4000).bind fun t124 => (if t124 = true then (impl_MemoryOk.l1 k x8 x9 x10 (rd_L3 x8 x10) ((rd_L3 x8 x10).length : Int) 0 x123000) else (some false))) else (none)) else (none)) else (some ((x123000.length : Int) == 24))
def impl_MemoryOk.l1 : Nat → List (List (S43)) → Int → Int → List (S43) → Int → Int → List (List (S43)) → Option (Bool)
  | 0, _, _, _, _, _, _, _ => none
  | k + 1, x8, x9, x10, x18, x19, x20, x123000 => if x20 < x19 then (if 0 ≤ x20 then (if x20 < (x18.length : Int) then ((impl_ViewOk.f k x123000 ((rd_T43 x18 x20).f1)).bind fun t127 => (if t127 = true then (impl_MemoryOk.l1 k x8 x9 x10 x18 x19 (wrap64 (x20 + 1)) x123000) else (some false))) else (none)) else (none)) else (impl_MemoryOk.l0 k x8 x9 (wrap64 (x10 + 1)) x123000)
end
def impl_MemoryOk.f (k : Nat) (l0_0 : List (List (S43))) : Option (Bool) := impl_MemoryOk.l0 k l0_0 (l0_0.length : Int) 0 l0_0
set_option maxHeartbeats 8000000 in
set_option maxRecDepth 100000 in
theorem impl_MemoryOk.calls (k : Nat) (A0_0 : Option Addr) (c0_0 : Nat) (l0_0 : List (List (S43))) (r : Bool) (w : World) (hr0_0 : Kd.C (Kd.slice 43 k43) w A0_0 l0_0.length l0_0) (hc0_0 : l0_0.length ≤ c0_0) (h : impl_MemoryOk.f k l0_0 = some r) :
  Calls Try.prog 26 #[.agg #[.slice A0_0 l0_0.length c0_0]] w fun e w' => e = .returned (.bool r) ∧ Below w.heap.size w w' := by
 have hu24 := Try.underlying24
 have hu43 := Try.underlying43
 have HR0_0 := aM_ hr0_0
 have HC0_0 := aM_ hc0_0
 clear hr0_0 hc0_0
 have HB := aM_ (Below.refl w.heap.size w)
 have H : (impl_MemoryOk.l0 k l0_0 (l0_0.length : Int) 0 l0_0) = some r := h
 clear h
 have H' := aM_ H
 clear H
 go_enter Try.func26, Try.ntmps26
 go_wp2_with (first | ((with_reducible refine gate_dst (N := 1) rfl ?_); refine bX_ 1 (cs := #[.slice A0_0 l0_0.length c0_0]) (t := 24) ?_; intro gb122 hg w2 hbox hb; have n0 := aM_ (sT_ HB.out hb); have n1 := aM_ (hbox); have n2 := aM_ (sZ_ hg HB.out); have n3 := aM_ (sZ_ hg HB.out); clear HB; have HB := n0; have BK122 := n1; have GW122 := n2; have GE122 := n3; clear n0 n1 n2 n3; clear hb hbox hg; have hcz3_0 : w2.cell? ⟨gb122, 0, none⟩ = some (.slice A0_0 l0_0.length c0_0) := (blk_cell BK122.out 0).trans rfl; have hfz3_0 := blk_frozen BK122.out 0))
 go_loopg [10] k (fun kq v10 w' => ∃ (x10_1 : Int), v10 = .int .i64 x10_1 ∧ Aside0 (impl_MemoryOk.l0 kq l0_0 (l0_0.length : Int) x10_1 l0_0 = some r) ∧ Aside0 (kq ≤ k) ∧ Aside0 (w'.heap[gb122]? = some (.cells #[(.slice A0_0 l0_0.length c0_0)] 24 (0, 0))) ∧ Aside0 (Below w.heap.size w w'))
 case atStart => exact ⟨(0), (by first | rfl | (simp; done) | (simp [*]; done)), H', ⟨Nat.le_refl _⟩, ⟨rW_ BK122.out⟩, ⟨gW_ HB.out⟩⟩
 case round =>
  clear H'
  try clear c2
  try clear p2
  try clear hcz3_0 hfz3_0
  obtain ⟨x10_1, rfl, HA, HK1, BK122, HB⟩ := hrel
  cases gk with
  | zero => exact absurd HA.out (by simp [impl_MemoryOk.l0])
  | succ k1 =>
   have H := HA.out
   clear HA
   simp only [impl_MemoryOk.l0] at H
   by_cases c4 : x10_1 < (l0_0.length : Int)
   ·rw [if_pos c4] at H
    have c4b0 : decide (x10_1 < (l0_0.length : Int)) = true := decide_eq_true c4
    clear c4
    by_cases c5 : 0 ≤ x10_1
    ·rw [if_pos c5] at H
     have c5b0 : decide (0 ≤ x10_1) = true := decide_eq_true c5
     clear c5
     by_cases c6 : x10_1 < (l0_0.length : Int)
     ·rw [if_pos c6] at H
      have c6b0 : decide (x10_1 < (l0_0.length : Int)) = true := decide_eq_true c6
      clear c6
      replace H := Option.bind_eq_some_iff.mp H
      obtain ⟨t124, A70, H⟩ := H
      replace H : (if t124 = true then (impl_MemoryOk.l1 k1 l0_0 (l0_0.length : Int) x10_1 (rd_L3 l0_0 x10_1) ((rd_L3 l0_0 x10_1).length : Int) 0 l0_0) else (some false)) = some r := H
      have A7 := aM_ A70
      clear A70
      by_cases c8 : t124 = true
      ·subst c8
       have H1 : (impl_MemoryOk.l1 k1 l0_0 (l0_0.length : Int) x10_1 (rd_L3 l0_0 x10_1) ((rd_L3 l0_0 x10_1).length : Int) 0 l0_0) = some r := by rw [if_pos rfl] at H; exact H
       clear H
       have H := H1
       clear H1
       have H' := aM_ H
       clear H
       have p123 : 0 ≤ (x10_1 : Int) := of_decide_eq_true (by first | (with_reducible assumption) | assumption)
       have q123 : x10_1 < (l0_0.length : Int) := of_decide_eq_true (by first | (with_reducible assumption) | assumption)
       obtain ⟨ad123, A123_0, c123_0, e123, hx123_0, hl123_0, hi123_0⟩ := at_L3 HR0_0.out x10_1 p123 q123
       cases e123
       replace hx123_0 := cB_ HB.out hx123_0
       have HR123_0 := aM_ hi123_0
       have HC123_0 := aM_ hl123_0
       clear hi123_0 hl123_0
       replace p123 := eq_true p123
       replace q123 := eq_true q123
       go_wp2_with (first | ((with_reducible refine gate_callee (f := 68) rfl ?_); refine gL_ (some 16) Try.func68 #[.int .i64 ((rd_L3 l0_0 x10_1).length : Int), .int .i64 1, .int .i64 4000] ?_; (with_reducible refine (impl_within.calls ((rd_L3 l0_0 x10_1).length : Int) 1 4000 true _ A7.out).mono ?_); rintro e w' ⟨rfl, ⟨nd, rfl⟩⟩; refine ⟨_, rfl, ?_⟩))
       go_loopg [20] k1 (fun kq v20 w' => ∃ (x20_2 : Int), v20 = .int .i64 x20_2 ∧ Aside0 (impl_MemoryOk.l1 kq l0_0 (l0_0.length : Int) x10_1 (rd_L3 l0_0 x10_1) ((rd_L3 l0_0 x10_1).length : Int) x20_2 l0_0 = some r) ∧ Aside0 (kq ≤ k1) ∧ Aside0 (w'.heap[gb122]? = some (.cells #[(.slice (some ad123) l0_0.length c0_0)] 24 (0, 0))) ∧ Aside0 (Below w.heap.size w w'))
       case atStart => exact ⟨(0), (by first | rfl | (simp; done) | (simp [*]; done)), H', ⟨Nat.le_refl _⟩, ⟨rW_ BK122.out⟩, ⟨gW_ HB.out⟩⟩
       case round =>
        clear H'
        try clear c1
        try clear p1
        try clear q1
        try clear hx1
        try clear c2
        try clear p2
        try clear c4
        try clear c4b0
        try clear c5
        try clear c5b0
        try clear c6
        try clear c6b0
        try clear c8
        try clear hcz3_0 hfz3_0
        try clear hx123_0
        try clear p123
        try clear p2
        try clear q123
        obtain ⟨x20_2, rfl, HA, HK2, BK122, HB⟩ := hrel
        cases gk with
        | zero => exact absurd HA.out (by simp [impl_MemoryOk.l1])
        | succ k2 =>
         have H := HA.out
         clear HA
         simp only [impl_MemoryOk.l1] at H
         by_cases c9 : x20_2 < ((rd_L3 l0_0 x10_1).length : Int)
         ·rw [if_pos c9] at H
          have c9b0 : decide (x20_2 < ((rd_L3 l0_0 x10_1).length : Int)) = true := decide_eq_true c9
          clear c9
          by_cases c10 : 0 ≤ x20_2
          ·rw [if_pos c10] at H
           have c10b0 : decide (0 ≤ x20_2) = true := decide_eq_true c10
           clear c10
           by_cases c11 : x20_2 < ((rd_L3 l0_0 x10_1).length : Int)
           ·rw [if_pos c11] at H
            have c11b0 : decide (x20_2 < ((rd_L3 l0_0 x10_1).length : Int)) = true := decide_eq_true c11
            clear c11
            replace H := Option.bind_eq_some_iff.mp H
            obtain ⟨t127, A120, H⟩ := H
            replace H : (if t127 = true then (impl_MemoryOk.l1 k2 l0_0 (l0_0.length : Int) x10_1 (rd_L3 l0_0 x10_1) ((rd_L3 l0_0 x10_1).length : Int) (wrap64 (x20_2 + 1)) l0_0) else (some false)) = some r := H
            have A12 := aM_ A120
            clear A120
            by_cases c13 : t127 = true
            ·subst c13
             have H1 : (impl_MemoryOk.l1 k2 l0_0 (l0_0.length : Int) x10_1 (rd_L3 l0_0 x10_1) ((rd_L3 l0_0 x10_1).length : Int) (wrap64 (x20_2 + 1)) l0_0) = some r := by rw [if_pos rfl] at H; exact H
             clear H
             have H := H1
             clear H1
             have H' := aM_ H
             clear H
             have p125 : 0 ≤ (x20_2 : Int) := of_decide_eq_true (by first | (with_reducible assumption) | assumption)
             have q125 : x20_2 < ((rd_L3 l0_0 x10_1).length : Int) := of_decide_eq_true (by first | (with_reducible assumption) | assumption)
             obtain ⟨ad125, A125_1, c125_1, e125, hx125_0, hx125_1, hl125_1, hi125_1⟩ := at_T43 HR123_0.out x20_2 p125 q125
             cases e125
             replace hx125_0 := cB_ HB.out hx125_0
             replace hx125_1 := cB_ HB.out hx125_1
             have HR125_1 := aM_ hi125_1
             have HC125_1 := aM_ hl125_1
             clear hi125_1 hl125_1
             replace p125 := eq_true p125
             replace q125 := eq_true q125
             go_wp2_with (first | ((with_reducible refine gate_dst (N := 6) rfl ?_); refine bX_ 6 (cs := #[.int .i64 0, .slice none 0 0]) (t := 43) ?_; intro gb126 hg w14 hbox hb; have n0 := aM_ (nB_ BK122.out hb); have n1 := aM_ (sT_ HB.out hb); have n2 := aM_ (hbox); have n3 := aM_ (sZ_ hg HB.out); have n4 := aM_ (sZ_ hg HB.out); have n5 := aM_ (nL_ hg BK122.out); have n6 := aM_ (nG_ hg BK122.out); clear BK122; clear HB; have BK122 := n0; have HB := n1; have BK126 := n2; have GW126 := n3; have GE126 := n4; have NB122_126 := n5; have NB126_122 := n6; clear n0 n1 n2 n3 n4 n5 n6; clear hb hbox hg; have hnb15 := NB126_122.out; have hnc15 := NB122_126.out; obtain ⟨hcz16_0, hcz16_1, hfz16_0, hfz16_1⟩ := bR2_ BK126.out; have hcz17_0 : w14.cell? ⟨gb122, 0, none⟩ = some (.slice (some ad123) l0_0.length c0_0) := (blk_cell BK122.out 0).trans rfl; have hfz17_0 := blk_frozen BK122.out 0) | ((with_reducible refine gate_callee (f := 28) rfl ?_); refine gL_ (some 27) Try.func28 #[.agg #[.slice (some ad123) l0_0.length c0_0], .slice A125_1 ((rd_T43 (rd_L3 l0_0 x10_1) x20_2).f1).length c125_1] ?_; (with_reducible refine (impl_ViewOk.calls k2 _ _ l0_0 _ _ ((rd_T43 (rd_L3 l0_0 x10_1) x20_2).f1) true _ ?side1 ?side2 ?side3 ?side4 A12.out).mono ?_); (case side1 => exact Kd.C_below HR0_0.out (gB_ HB.out)); (case side2 => exact HC0_0.out); (case side3 => exact Kd.C_below HR125_1.out (gB_ HB.out)); (case side4 => exact HC125_1.out); rintro e w18 ⟨rfl, hb⟩; refine ⟨_, rfl, ?_⟩; have n0 := aM_ (blk_below (g := gb122) (o := .cells #[.slice (some ad123) l0_0.length c0_0] 24 (0, 0)) (by (with_reducible repeat (first | refine bN_ ?_ _ | refine bD_ ?_ | refine bA_ ?_ _)); refine blk_far ?_ NB122_126.out _; (with_reducible repeat (first | refine bN_ ?_ _ | refine bD_ ?_ | refine bA_ ?_ _)); refine blk_far ?_ NB122_126.out _; (with_reducible repeat (first | refine bN_ ?_ _ | refine bD_ ?_ | refine bA_ ?_ _)); exact BK122.out) hb); have n1 := aM_ (blk_below (g := gb126) (o := .cells #[.int .i64 ((rd_T43 (rd_L3 l0_0 x10_1) x20_2).f0), .slice A125_1 ((rd_T43 (rd_L3 l0_0 x10_1) x20_2).f1).length c125_1] 43 (0, 0)) (by (with_reducible repeat (first | refine bN_ ?_ _ | refine bD_ ?_ | refine bA_ ?_ _)); refine blk_put (cs := #[.int .i64 ((rd_T43 (rd_L3 l0_0 x10_1) x20_2).f0), .slice none 0 0]) ?_ 1 _ rfl; (with_reducible repeat (first | refine bN_ ?_ _ | refine bD_ ?_ | refine bA_ ?_ _)); refine blk_put (cs := #[.int .i64 0, .slice none 0 0]) ?_ 0 _ rfl; (with_reducible repeat (first | refine bN_ ?_ _ | refine bD_ ?_ | refine bA_ ?_ _)); exact BK126.out) hb); have n2 := aM_ (sT_ HB.out hb); clear BK122; clear BK126; clear HB; have BK122 := n0; have BK126 := n1; have HB := n2; clear n0 n1 n2))
             go_roundg k2
             case measure => have := HK1.out; have := HK2.out; omega
             case rel => exact ⟨(wrap64 (x20_2 + 1)), (by first | rfl | (simp; done) | (simp [*]; done)), H', ⟨by have := HK1.out; have := HK2.out; omega⟩, ⟨rW_ BK122.out⟩, ⟨gW_ HB.out⟩⟩
            ·replace c13 := Bool.eq_false_iff.mpr c13
             subst c13
             have H1 : (some false) = some r := by rw [if_neg (show ¬ (false = true) by decide)] at H; exact H
             clear H
             have H := H1
             clear H1
             obtain rfl := Option.some.inj H
             have p125 : 0 ≤ (x20_2 : Int) := of_decide_eq_true (by first | (with_reducible assumption) | assumption)
             have q125 : x20_2 < ((rd_L3 l0_0 x10_1).length : Int) := of_decide_eq_true (by first | (with_reducible assumption) | assumption)
             obtain ⟨ad125, A125_1, c125_1, e125, hx125_0, hx125_1, hl125_1, hi125_1⟩ := at_T43 HR123_0.out x20_2 p125 q125
             cases e125
             replace hx125_0 := cB_ HB.out hx125_0
             replace hx125_1 := cB_ HB.out hx125_1
             have HR125_1 := aM_ hi125_1
             have HC125_1 := aM_ hl125_1
             clear hi125_1 hl125_1
             replace p125 := eq_true p125
             replace q125 := eq_true q125
             go_wp2_with (first | ((with_reducible refine gate_dst (N := 6) rfl ?_); refine bX_ 6 (cs := #[.int .i64 0, .slice none 0 0]) (t := 43) ?_; intro gb126 hg w19 hbox hb; have n0 := aM_ (nB_ BK122.out hb); have n1 := aM_ (sT_ HB.out hb); have n2 := aM_ (hbox); have n3 := aM_ (sZ_ hg HB.out); have n4 := aM_ (sZ_ hg HB.out); have n5 := aM_ (nL_ hg BK122.out); have n6 := aM_ (nG_ hg BK122.out); clear BK122; clear HB; have BK122 := n0; have HB := n1; have BK126 := n2; have GW126 := n3; have GE126 := n4; have NB122_126 := n5; have NB126_122 := n6; clear n0 n1 n2 n3 n4 n5 n6; clear hb hbox hg; have hnb20 := NB126_122.out; have hnc20 := NB122_126.out; obtain ⟨hcz21_0, hcz21_1, hfz21_0, hfz21_1⟩ := bR2_ BK126.out; have hcz22_0 : w19.cell? ⟨gb122, 0, none⟩ = some (.slice (some ad123) l0_0.length c0_0) := (blk_cell BK122.out 0).trans rfl; have hfz22_0 := blk_frozen BK122.out 0) | ((with_reducible refine gate_callee (f := 28) rfl ?_); refine gL_ (some 27) Try.func28 #[.agg #[.slice (some ad123) l0_0.length c0_0], .slice A125_1 ((rd_T43 (rd_L3 l0_0 x10_1) x20_2).f1).length c125_1] ?_; (with_reducible refine (impl_ViewOk.calls k2 _ _ l0_0 _ _ ((rd_T43 (rd_L3 l0_0 x10_1) x20_2).f1) false _ ?side1 ?side2 ?side3 ?side4 A12.out).mono ?_); (case side1 => exact Kd.C_below HR0_0.out (gB_ HB.out)); (case side2 => exact HC0_0.out); (case side3 => exact Kd.C_below HR125_1.out (gB_ HB.out)); (case side4 => exact HC125_1.out); rintro e w23 ⟨rfl, hb⟩; refine ⟨_, rfl, ?_⟩; have n0 := aM_ (blk_below (g := gb122) (o := .cells #[.slice (some ad123) l0_0.length c0_0] 24 (0, 0)) (by (with_reducible repeat (first | refine bN_ ?_ _ | refine bD_ ?_ | refine bA_ ?_ _)); refine blk_far ?_ NB122_126.out _; (with_reducible repeat (first | refine bN_ ?_ _ | refine bD_ ?_ | refine bA_ ?_ _)); refine blk_far ?_ NB122_126.out _; (with_reducible repeat (first | refine bN_ ?_ _ | refine bD_ ?_ | refine bA_ ?_ _)); exact BK122.out) hb); have n1 := aM_ (blk_below (g := gb126) (o := .cells #[.int .i64 ((rd_T43 (rd_L3 l0_0 x10_1) x20_2).f0), .slice A125_1 ((rd_T43 (rd_L3 l0_0 x10_1) x20_2).f1).length c125_1] 43 (0, 0)) (by (with_reducible repeat (first | refine bN_ ?_ _ | refine bD_ ?_ | refine bA_ ?_ _)); refine blk_put (cs := #[.int .i64 ((rd_T43 (rd_L3 l0_0 x10_1) x20_2).f0), .slice none 0 0]) ?_ 1 _ rfl; (with_reducible repeat (first | refine bN_ ?_ _ | refine bD_ ?_ | refine bA_ ?_ _)); refine blk_put (cs := #[.int .i64 0, .slice none 0 0]) ?_ 0 _ rfl; (with_reducible repeat (first | refine bN_ ?_ _ | refine bD_ ?_ | refine bA_ ?_ _)); exact BK126.out) hb); have n2 := aM_ (sT_ HB.out hb); clear BK122; clear BK126; clear HB; have BK122 := n0; have BK126 := n1; have HB := n2; clear n0 n1 n2))
             go_ret
             exact fI_ HB.out
           ·rw [if_neg c11] at H
            exact absurd H (by simp)
          ·rw [if_neg c10] at H
           exact absurd H (by simp)
         ·rw [if_neg c9] at H
          have c9b0 : decide (x20_2 < ((rd_L3 l0_0 x10_1).length : Int)) = false := decide_eq_false c9
          clear c9
          have H' := aM_ H
          clear H
          go_wp2
          go_roundg k2
          case measure => have := HK1.out; have := HK2.out; omega
          case rel => exact ⟨(wrap64 (x10_1 + 1)), (by first | rfl | (simp; done) | (simp [*]; done)), H', ⟨by have := HK1.out; have := HK2.out; omega⟩, ⟨rW_ BK122.out⟩, ⟨gW_ HB.out⟩⟩
      ·replace c8 := Bool.eq_false_iff.mpr c8
       subst c8
       have H1 : (some false) = some r := by rw [if_neg (show ¬ (false = true) by decide)] at H; exact H
       clear H
       have H := H1
       clear H1
       obtain rfl := Option.some.inj H
       have p123 : 0 ≤ (x10_1 : Int) := of_decide_eq_true (by first | (with_reducible assumption) | assumption)
       have q123 : x10_1 < (l0_0.length : Int) := of_decide_eq_true (by first | (with_reducible assumption) | assumption)
       obtain ⟨ad123, A123_0, c123_0, e123, hx123_0, hl123_0, hi123_0⟩ := at_L3 HR0_0.out x10_1 p123 q123
       cases e123
       replace hx123_0 := cB_ HB.out hx123_0
       have HR123_0 := aM_ hi123_0
       have HC123_0 := aM_ hl123_0
       clear hi123_0 hl123_0
       replace p123 := eq_true p123
       replace q123 := eq_true q123
       go_wp2_with (first | ((with_reducible refine gate_callee (f := 68) rfl ?_); refine gL_ (some 16) Try.func68 #[.int .i64 ((rd_L3 l0_0 x10_1).length : Int), .int .i64 1, .int .i64 4000] ?_; (with_reducible refine (impl_within.calls ((rd_L3 l0_0 x10_1).length : Int) 1 4000 false _ A7.out).mono ?_); rintro e w' ⟨rfl, ⟨nd, rfl⟩⟩; refine ⟨_, rfl, ?_⟩))
       go_ret
       exact fI_ HB.out
     ·rw [if_neg c6] at H
      exact absurd H (by simp)
    ·rw [if_neg c5] at H
     exact absurd H (by simp)
   ·rw [if_neg c4] at H
    have c4b0 : decide (x10_1 < (l0_0.length : Int)) = false := decide_eq_false c4
    clear c4
    obtain rfl := Option.some.inj H
    have hcz24_0 : wr.cell? ⟨gb122, 0, none⟩ = some (.slice A0_0 l0_0.length c0_0) := (blk_cell BK122.out 0).trans rfl
    have hfz24_0 := blk_frozen BK122.out 0
    go_wp2
    go_ret
    exact fI_ HB.out
def impl_isCell.f (a0 : Int) : Option (Bool) := (impl_within.f a0 0 23).bind fun t128 => (some t128)
set_option maxHeartbeats 8000000 in
set_option maxRecDepth 100000 in
theorem impl_isCell.calls (a0 : Int) (r : Bool) (w : World) (h : impl_isCell.f a0 = some r) :
  Calls Try.prog 56 #[.int .i64 a0] w fun e w' => e = .returned (.bool r) ∧ Drawn0 w w' := by
 have H : ((impl_within.f a0 0 23).bind fun t128 => (some t128)) = some r := h
 clear h
 replace H := Option.bind_eq_some_iff.mp H
 obtain ⟨t128, A20, H⟩ := H
 replace H : (some t128) = some r := H
 have A2 := aM_ A20
 clear A20
 obtain rfl := Option.some.inj H
 go_enter Try.func56, Try.ntmps56
 go_wp2_with (first | ((with_reducible refine gate_callee (f := 68) rfl ?_); refine gL_ (some 4) Try.func68 #[.int .i64 a0, .int .i64 0, .int .i64 23] ?_; (with_reducible refine (impl_within.calls a0 0 23 t128 _ A2.out).mono ?_); rintro e w' ⟨rfl, ⟨nd, rfl⟩⟩; refine ⟨_, rfl, ?_⟩))
 go_ret
 exact ⟨by first | rfl | (simp; done) | (simp [*]; done), by repeat (first | exact Drawn0.refl _ | apply Drawn0.step)⟩
def impl_copyInts.f (l0 : List Int) : Option (List Int) := (some (([] : List Int) : List Int)).bind fun y129 => (if y129.length + l0.length < 17592186044416 then (some (y129 ++ l0)) else (none))
set_option maxHeartbeats 8000000 in
set_option maxRecDepth 100000 in
theorem impl_copyInts.calls (A0 : Option Addr) (c0 : Nat) (l0 : List Int) (r : List Int) (w : World) (hr0 : Kd.C (Kd.int .i64) w A0 l0.length l0) (hc0 : l0.length ≤ c0) (h : impl_copyInts.f l0 = some r) :
  Calls Try.prog 58 #[.slice A0 l0.length c0] w fun e w' => ∃ v0_ : Value, e = .returned (v0_) ∧ Kd.R (Kd.int .i64) 3 w' w.heap.size (fun _ => True) v0_ r ∧ Below w.heap.size w w' := by
 have HR0 := aM_ hr0
 have HC0 := aM_ hc0
 clear hr0 hc0
 have HB := aM_ (Below.refl w.heap.size w)
 have H : ((some (([] : List Int) : List Int)).bind fun y129 => (if y129.length + l0.length < 17592186044416 then (some (y129 ++ l0)) else (none))) = some r := h
 clear h
 obtain ⟨y129, hy129⟩ : ∃ y_ : List Int, y_ = (([] : List Int)) := ⟨_, rfl⟩
 replace H : (if y129.length + l0.length < 17592186044416 then (some (y129 ++ l0)) else (none)) = some r := by first | (rw [hy129]; with_reducible exact H) | (have H2_ := (Option.bind_some _ _).symm.trans H; rw [hy129]; with_reducible exact H2_) | (have H2_ := (Option.bind_some _ _).symm.trans H; with_reducible exact H2_) | with_reducible exact H | (rw [hy129]; exact H) | exact H
 have Ny129 := aM_ hy129
 clear hy129
 by_cases c2 : y129.length + l0.length < 17592186044416
 ·rw [if_pos c2] at H
  have LMc2 := aM_ c2
  clear c2
  obtain ⟨y132, hy132⟩ : ∃ y_ : List Int, y_ = (y129 ++ l0) := ⟨_, rfl⟩
  replace H : (some y132) = some r := by first | (rw [hy132]; with_reducible exact H) | (have H2_ := (Option.bind_some _ _).symm.trans H; rw [hy132]; with_reducible exact H2_) | (have H2_ := (Option.bind_some _ _).symm.trans H; with_reducible exact H2_) | with_reducible exact H | (rw [hy132]; exact H) | exact H
  have Ny132 := aM_ hy132
  clear hy132
  obtain rfl := Option.some.inj H
  go_enter Try.func58, Try.ntmps58
  go_wp2_with (first | ((with_reducible refine gate_dst (N := 3) rfl ?_); refine Kd.R_lit (Kd.int .i64) _ 3 ?hg (N := 3) ?hd (xs := ([] : List Int)) (inner := []) (ok := fun _ => True) (okp := fun _ => True) ?hr ?hp (fun _ hk => hk) trivial (Below.refl _ _) (Nat.le_refl _) (by simp) ?_; (case hd => rfl); (case hg => rfl); (case hr => first | (go_simp; done) | (go_simp; rfl)); (case hp => exact (Reps.none _ _)); intro v130 w3 ho4 hb hg_ hnew_; clear hg_ hnew_; (first | rw [← Ny129.out] at ho4 | (simp only [Int.reduceToNat] at ho4; rw [← Ny129.out] at ho4)); have n0 := aM_ (Kd.R_lower ho4 (below_size (gB_ HB.out))); have n1 := aM_ (sT_ HB.out hb); clear HB; have HO131 := n0; have HB := n1; clear n0 n1; clear hb ho4) | ((with_reducible refine gate_builtin (b := .append) (xs := #[.tmp 3, .tmp 4]) rfl ?_); at_builtin; refine Kd.R_append_rows (Kd.int .i64) (w0 := w) w.heap.size rfl (.tmp 3) (.tmp 4) 31 3 (.int .i64 0) 8 rfl Try.underlying31 info3 rfl (by decide) (by omega) v130 y129 l0 _ _ _ (fun _ => True) (fun _ => False) rfl rfl ?aO ?aR (fun _ _ h => h) (fun _ h => h.elim) ?aF ?aB ?aS ?aL ?_; (case aR => repeat (first | exact (Kd.C_below HR0.out HB.out) | (with_reducible refine Kd.C_alloc ?_ _) | (with_reducible refine Kd.C_drewN ?_ _) | (with_reducible refine Kd.C_drew ?_))); (case aB => exact (gB_ HB.out)); (case aF => exact (fun _ _ => trivial)); (case aO => exact (by (with_reducible repeat (first | apply rA_ | apply rN_ | apply rD_)); exact HO131.out)); (case aS => exact (below_size (gB_ HB.out))); (case aL => have := LMc2.out; omega); intro v133 w5 ho hb hg hat; rw [← Ny132.out] at ho; have n0 := aM_ (hb); have n1 := aM_ (ho); clear HB; clear HO131; have HB := n0; have HO134 := n1; clear n0 n1; clear ho hb hg hat))
  go_ret
  exact ⟨_, fR_, by (with_reducible repeat (first | apply rA_ | apply rN_ | apply rD_)); exact HO134.out, gB_ HB.out⟩
 ·rw [if_neg c2] at H
  exact absurd H (by simp)
def impl_Join.l0 : Nat → List Int → List Int → List Int → Int → Option (List Int)
  | 0, _, _, _, _ => none
  | k + 1, x0, x1, x5, x6 => if x6 < (x0.length : Int) then (if x6 < (x1.length : Int) then (if 0 ≤ x6 then (if x5.length < 17592186044416 then (impl_Join.l0 k x0 x1 (x5 ++ [mx (rd x0 x6) (rd x1 x6)]) (wrap64 (x6 + 1))) else (none)) else (none)) else (some x5)) else (some x5)
def impl_Join.f (k : Nat) (l0 : List Int) (l1 : List Int) : Option (List Int) := impl_Join.l0 k l0 l1 (([] : List Int)) 0
def impl_Join.T5 : Bool × List (List Nat × List Nat) := (true, [([], []), ([], []), ([], []), ([1, 2], [1, 2]), ([3], [3]), ([], []), ([], []), ([5, 6], [5, 6]), ([7], [7]), ([4, 8], [4, 8]), ([9], [9]), ([0, 10], [0, 10]), ([11, 11, 0, 1, 2, 3, 4, 5, 6, 7, 8, 9, 10, 11], [0, 11])])
def impl_Join.B5 : List Nat := [0, 0, 0, 6, 14, 0, 0, 96, 224, 510, 1022, 2047, 4095]
theorem impl_Join.tab5 : rtab .any (opsOf Try.f94 5) = impl_Join.T5 := by kernel_rfl
theorem impl_Join.bits5 : waitsOk impl_Join.T5.2 impl_Join.B5 = true := by kernel_rfl
set_option maxHeartbeats 8000000 in
set_option maxRecDepth 100000 in
theorem impl_Join.calls (k : Nat) (A0 : Option Addr) (c0 : Nat) (l0 : List Int) (A1 : Option Addr) (c1 : Nat) (l1 : List Int) (r : List Int) (w : World) (hr0 : Kd.C (Kd.int .i64) w A0 l0.length l0) (hc0 : l0.length ≤ c0) (hr1 : Kd.C (Kd.int .i64) w A1 l1.length l1) (hc1 : l1.length ≤ c1) (h : impl_Join.f k l0 l1 = some r) :
  Calls Try.prog 94 #[.slice A0 l0.length c0, .slice A1 l1.length c1] w fun e w' => ∃ v0_ : Value, e = .returned (v0_) ∧ Kd.R (Kd.int .i64) 3 w' w.heap.size (fun _ => True) v0_ r ∧ Below w.heap.size w w' := by
 have HR0 := aM_ hr0
 have HC0 := aM_ hc0
 clear hr0 hc0
 have HR1 := aM_ hr1
 have HC1 := aM_ hc1
 clear hr1 hc1
 have HB := aM_ (Below.refl w.heap.size w)
 have H : (impl_Join.l0 k l0 l1 (([] : List Int)) 0) = some r := h
 clear h
 obtain ⟨y135, hy135⟩ : ∃ y_ : List Int, y_ = (([] : List Int)) := ⟨_, rfl⟩
 replace H : (impl_Join.l0 k l0 l1 y135 0) = some r := by first | (rw [hy135]; with_reducible exact H) | (have H2_ := (Option.bind_some _ _).symm.trans H; rw [hy135]; with_reducible exact H2_) | (have H2_ := (Option.bind_some _ _).symm.trans H; with_reducible exact H2_) | with_reducible exact H | (rw [hy135]; exact H) | exact H
 have Ny135 := aM_ hy135
 clear hy135
 have H' := aM_ H
 clear H
 go_enter Try.func94, Try.ntmps94
 go_wp2_with (first | ((with_reducible refine gate_dst (N := 7) rfl ?_); (try (refine gate_guard (by rfl) ?_; dsimp only)); refine Kd.R_lit (Kd.int .i64) _ 3 ?hg (N := 7) ?hd (xs := ([] : List Int)) (inner := []) (ok := fun _ => True) (okp := fun _ => True) ?hr ?hp (fun _ hk => hk) trivial (Below.refl _ _) (Nat.le_refl _) (by simp) ?_; (case hd => rfl); (case hg => rfl); (case hr => first | (go_simp; done) | (go_simp; rfl)); (case hp => exact (Reps.none _ _)); intro v136 w3 ho4 hb hg_ hnew_; clear hg_ hnew_; (first | rw [← Ny135.out] at ho4 | (simp only [Int.reduceToNat] at ho4; rw [← Ny135.out] at ho4)); have n0 := aM_ (Kd.R_lower ho4 (below_size (gB_ HB.out))); have n1 := aM_ (sT_ HB.out hb); clear HB; have HO137 := n0; have HB := n1; clear n0 n1; clear hb ho4))
 go_loopg [5, 6] k (fun kq v5 v6 w' => ∃ (x5_1 : List Int) (x6_1 : Int), v6 = .int .i64 x6_1 ∧ Aside0 (impl_Join.l0 kq l0 l1 x5_1 x6_1 = some r) ∧ Aside0 (kq ≤ k) ∧ Aside0 (Kd.R (Kd.int .i64) 3 w' w.heap.size (fun _ => True) v5 x5_1) ∧ Aside0 (Below w.heap.size w w'))
 case atStart => exact ⟨(y135), (0), (by first | rfl | (simp; done) | (simp [*]; done)), H', ⟨Nat.le_refl _⟩, ⟨by (with_reducible repeat (first | apply rA_ | apply rN_ | apply rD_)); exact HO137.out⟩, ⟨gW_ HB.out⟩⟩
 case round =>
  clear H'
  try clear c1
  try clear p2
  obtain ⟨x5_1, x6_1, rfl, HA, HK1, HO_5, HB⟩ := hrel
  cases gk with
  | zero => exact absurd HA.out (by simp [impl_Join.l0])
  | succ k1 =>
   have H := HA.out
   clear HA
   simp only [impl_Join.l0] at H
   by_cases c5 : x6_1 < (l0.length : Int)
   ·rw [if_pos c5] at H
    have c5b0 : decide (x6_1 < (l0.length : Int)) = true := decide_eq_true c5
    clear c5
    by_cases c6 : x6_1 < (l1.length : Int)
    ·rw [if_pos c6] at H
     have c6b0 : decide (x6_1 < (l1.length : Int)) = true := decide_eq_true c6
     clear c6
     by_cases c7 : 0 ≤ x6_1
     ·rw [if_pos c7] at H
      have c7b0 : decide (0 ≤ x6_1) = true := decide_eq_true c7
      clear c7
      obtain ⟨ji8, hji8⟩ : ∃ j_ : Int, (mx (rd l0 x6_1) (rd l1 x6_1)) = j_ := ⟨_, rfl⟩
      replace H : (if x5_1.length < 17592186044416 then (impl_Join.l0 k1 l0 l1 (x5_1 ++ [ji8]) (wrap64 (x6_1 + 1))) else (none)) = some r := by first | (rw [hji8] at H; exact H) | (simp only [hji8] at H ⊢; exact H)
      have hji8_ : (if (rd l0 x6_1) < (rd l1 x6_1) then (rd l1 x6_1) else (rd l0 x6_1)) = ji8 := hji8
      by_cases c9 : x5_1.length < 17592186044416
      ·rw [if_pos c9] at H
       have LMc9 := aM_ c9
       clear c9
       obtain ⟨y140, hy140⟩ : ∃ y_ : List Int, y_ = (x5_1 ++ [ji8]) := ⟨_, rfl⟩
       replace H : (impl_Join.l0 k1 l0 l1 y140 (wrap64 (x6_1 + 1))) = some r := by first | (rw [hy140]; with_reducible exact H) | (have H2_ := (Option.bind_some _ _).symm.trans H; rw [hy140]; with_reducible exact H2_) | (have H2_ := (Option.bind_some _ _).symm.trans H; with_reducible exact H2_) | with_reducible exact H | (rw [hy140]; exact H) | exact H
       have Ny140 := aM_ hy140
       clear hy140
       have H' := aM_ H
       clear H
       try go_wp2
       have n0 := aM_ (Kd.R_drew HO_5.out)
       have n1 := aM_ (below_drew1 HB.out)
       clear HO_5
       clear HB
       have HO_5 := n0
       have HB := n1
       clear n0 n1
       have p138 : 0 ≤ (x6_1 : Int) := of_decide_eq_true (by first | (with_reducible assumption) | assumption)
       have q138 : x6_1 < (l0.length : Int) := of_decide_eq_true (by first | (with_reducible assumption) | assumption)
       obtain ⟨ad138, e138, hx138_0⟩ := Kd.at_int HR0.out x6_1 p138 q138
       have hw138_0 := hx138_0
       cases e138
       replace hx138_0 := cB_ HB.out hx138_0
       replace p138 := eq_true p138
       replace q138 := eq_true q138
       have p139 : 0 ≤ (x6_1 : Int) := of_decide_eq_true (by first | (with_reducible assumption) | assumption)
       have q139 : x6_1 < (l1.length : Int) := of_decide_eq_true (by first | (with_reducible assumption) | assumption)
       obtain ⟨ad139, e139, hx139_0⟩ := Kd.at_int HR1.out x6_1 p139 q139
       have hw139_0 := hx139_0
       cases e139
       replace hx139_0 := cB_ HB.out hx139_0
       replace p139 := eq_true p139
       replace q139 := eq_true q139
       refine start_ (n := 13) (S := fun w' => w'.cell? (ad138.add (x6_1).toNat) = some (.int .i64 (rd l0 x6_1)) ∧ w'.cell? (ad139.add (x6_1).toNat) = some (.int .i64 (rd l1 x6_1))) (ds := []) (mk_ 13 0) (by kernel_rfl) rfl rfl ⟨(cB_ HB.out hw138_0 :), (cB_ HB.out hw139_0 :)⟩ (fun hHeld => ?_); refine with_tabW impl_Join.tab5 impl_Join.bits5 (fun HT_ HW_ => ?_)
       generalize wr.drew = w10 at HO_5 HB hx138_0 hx139_0 hHeld ⊢
       refine pU_ 0 (some 20) (mk_ 13 1) ?_
       refine pU_ 1 (some 21) (mk_ 13 3) ?_
       refine pU_ 2 (some 22) (mk_ 13 7) ?_
       refine pU_ 3 (some 23) (mk_ 13 15) ?_
       refine pU_ 5 (some 25) (mk_ 13 47) ?_
       refine pU_ 6 (some 26) (mk_ 13 111) ?_
       refine pU_ 7 (some 27) (mk_ 13 239) ?_
       refine tK2_ 4 (some 24) (mk_ 13 255) ?_
       refine tK2_ 8 (some 28) (mk_ 13 511) ?_
       refine pU_ 9 (some 29) (mk_ 13 1023) ?_
       refine oN_ 10 (some 30) (mk_ 13 2047) (fun K hK => ?_)
       refine value_ (w1 := ?_) (v := ?_) (by rfl) rfl ?_ ?_
       rotate_left 2
       ·go_simp
        constructor
        ·rfl
        ·rfl
       refine hK.out _ _ ⟨(World.cell?_alloc_lt _ _ _ (World.block_lt_of_cell? _ _ ((cB_ HB.out hw138_0 :)))).trans ((cB_ HB.out hw138_0 :)), (World.cell?_alloc_lt _ _ _ (World.block_lt_of_cell? _ _ ((cB_ HB.out hw139_0 :)))).trans ((cB_ HB.out hw139_0 :))⟩ (fun hHeld => ?_)
       clear hK K
       refine norm_ (a' := ?_) ?_ ?_
       rotate_left
       ·show Act.put _ (some 30) _ = _
        simp only [pt_, pn_, sI_, s0_, s1_, i64_w, i32_w]
        rfl
       refine oN_ 11 (some 31) (mk_ 13 4095) (fun K hK => ?_)
       refine Kd.R_append_step (Kd.int .i64) (w0 := w) w.heap.size (by rfl) (.tmp 20) (.tmp 30) 31 3 (.int .i64 0) 8 rfl Try.underlying31 info3 rfl (by decide) (by omega) u5 x5_1 ji8 [.int .i64 ji8] (fun _ => True) (fun _ => False) rfl rfl ?aP (fun _ hk => hk.elim) ?aF ?aO ?aB ?aS ?aL ?_
       (case aP => exact rfl)
       (case aB => exact (gB_ HB.out))
       (case aF => exact (fun _ _ => trivial))
       (case aO => exact (by (with_reducible repeat (first | apply rA_ | apply rN_ | apply rD_)); exact HO_5.out))
       (case aS => exact (below_size (gB_ HB.out)))
       (case aL => have := LMc9.out; omega)
       intro v141 w11 ho hb hg hat
       rw [← Ny140.out] at ho
       have n0 := aM_ (hb)
       have n1 := aM_ (ho)
       clear HB
       clear HO_5
       have HB := n0
       have HO142 := n1
       clear n0 n1
       clear ho hb hg hat
       refine hK.out _ _ ⟨(cB_ HB.out hw138_0 :), (cB_ HB.out hw139_0 :)⟩ (fun hHeld => ?_)
       clear hK K
       refine norm_ (a' := ?_) ?_ ?_
       rotate_left
       ·show Act.put _ (some 31) _ = _
        simp only [pt_, pn_, sI_, s0_, s1_, i64_w, i32_w]
        rfl
       refine pU_ 12 (some 5) (mk_ 13 8191) ?_
       refine done_ (done_of HT_.out (by kernel_rfl)) ?_
       try go_wp2
       go_roundg k1
       case measure => have := HK1.out; omega
       case rel => exact ⟨(y140), (wrap64 (x6_1 + 1)), (by first | rfl | (simp; done) | (simp [*]; done)), H', ⟨by have := HK1.out; omega⟩, ⟨by (with_reducible repeat (first | apply rA_ | apply rN_ | apply rD_)); exact HO142.out⟩, ⟨gW_ HB.out⟩⟩
      ·rw [if_neg c9] at H
       exact absurd H (by simp)
     ·rw [if_neg c7] at H
      exact absurd H (by simp)
    ·rw [if_neg c6] at H
     have c6b0 : decide (x6_1 < (l1.length : Int)) = false := decide_eq_false c6
     clear c6
     obtain rfl := Option.some.inj H
     go_wp2
     go_ret
     exact ⟨_, fR_, by (with_reducible repeat (first | apply rA_ | apply rN_ | apply rD_)); exact HO_5.out, gB_ HB.out⟩
   ·rw [if_neg c5] at H
    have c5b0 : decide (x6_1 < (l0.length : Int)) = false := decide_eq_false c5
    clear c5
    obtain rfl := Option.some.inj H
    go_wp2
    go_ret
    exact ⟨_, fR_, by (with_reducible repeat (first | apply rA_ | apply rN_ | apply rD_)); exact HO_5.out, gB_ HB.out⟩
def IsS24 (w0 W : World) (g : Nat) (f0 : List (List (S43))) : Prop := ∃ A0 c0, W.heap[g]? = some (.cells #[.slice A0 f0.length c0] 24 (0, 0)) ∧ w0.heap.size ≤ g ∧ Kd.C (Kd.slice 43 k43) w0 A0 f0.length f0
theorem IsS24.grown {w0 W : World} {g : Nat} {f0 : List (List (S43))} {W1 : World} {row : Option Nat} (h : IsS24 w0 W g f0) (hw : W.grownBy W1 row) (hne : some g ≠ row) : IsS24 w0 W1 g f0 := by
 obtain ⟨A0, c0, hb, hg, hr0⟩ := h
 exact ⟨A0, c0, blk_grown hb hw hne, hg, hr0⟩
theorem IsS24.kept {w0 W : World} {g : Nat} {f0 : List (List (S43))} {W1 : World} {S : Nat → Prop} (h : IsS24 w0 W g f0) (hk : Kept W W1 S) (hne : ¬ S g) : IsS24 w0 W1 g f0 := by
 obtain ⟨A0, c0, hb, hg, hr0⟩ := h
 exact ⟨A0, c0, blk_kept hb hk hne, hg, hr0⟩
theorem IsS24.below {w0 W : World} {g : Nat} {f0 : List (List (S43))} {W1 : World} (h : IsS24 w0 W g f0) (hw : Below W.heap.size W W1) : IsS24 w0 W1 g f0 := h.grown (grown_of_below hw none) (by simp)
theorem IsS24.alloc {w0 W : World} {g : Nat} {f0 : List (List (S43))} (h : IsS24 w0 W g f0) (o : Obj) : IsS24 w0 (W.alloc o) g f0 := h.below (below_alloc (Below.refl _ _) o)
theorem IsS24.drewN {w0 W : World} {g : Nat} {f0 : List (List (S43))} (h : IsS24 w0 W g f0) (m : Nat) : IsS24 w0 (W.drewN m) g f0 := h
theorem IsS24.drew {w0 W : World} {g : Nat} {f0 : List (List (S43))} (h : IsS24 w0 W g f0) : IsS24 w0 W.drew g f0 := h
theorem IsS24.at_ {w0 W : World} {g : Nat} {f0 : List (List (S43))} {w' : World} {m : Nat} (hq : W.drewN m = w') (h : IsS24 w0 W g f0) : IsS24 w0 w' g f0 := by subst hq; exact IsS24.drewN h m
theorem IsS24.apart {w0 W : World} {g : Nat} {f0 : List (List (S43))} {α : Type} {d : Kd α} {e : Nat} {base : Nat} {ok : Nat → Prop} {v : Value} {xs : List α} (h : IsS24 w0 W g f0) (ho : d.R e W base ok v xs) (ht : ∀ q, q ∈ e :: d.E → q ≠ 24) : d.R e W base (fun k => ok k ∧ k ≠ g) v xs := by
 obtain ⟨A0, c0, hb, hg, hr0⟩ := h
 exact Kd.R_types ho hb ht
theorem IsS24.own_ne {w0 W : World} {g : Nat} {f0 : List (List (S43))} {α : Type} {d : Kd α} {e : Nat} {base : Nat} {ok : Nat → Prop} {v : Value} {xs : List α} (h : IsS24 w0 W g f0) (ho : d.R e W base ok v xs) (ht : e ≠ 24) : some g ≠ v.ownBlock := by
 obtain ⟨A0, c0, hb, hg, hr0⟩ := h
 exact Kd.R_ne ho hb ht
theorem IsS24.lt {w0 W : World} {g : Nat} {f0 : List (List (S43))} (h : IsS24 w0 W g f0) : g < W.heap.size := by
 obtain ⟨A0, c0, hb, hg, hr0⟩ := h
 exact blk_lt hb
theorem IsS24.ge {w0 W : World} {g : Nat} {f0 : List (List (S43))} (h : IsS24 w0 W g f0) : w0.heap.size ≤ g := by
 obtain ⟨A0, c0, hb, hg, hr0⟩ := h
 exact hg
theorem IsS24.far {w0 W : World} {g : Nat} {f0 : List (List (S43))} {p : Addr} (h : IsS24 w0 W g f0) (hne : g ≠ p.block) (u : Value) : IsS24 w0 (W.setCell p u) g f0 := by
 obtain ⟨A0, c0, hb, hg, hr0⟩ := h
 exact ⟨A0, c0, blk_far hb hne u, hg, hr0⟩
theorem cellS24_0 {W : World} {g : Nat} {A0 : Option Addr} {c0 : Nat} {f0 : List (List (S43))} (h : W.heap[g]? = some (.cells #[.slice A0 f0.length c0] 24 (0, 0))) : W.cell? ⟨g, 0, none⟩ = some (.slice A0 f0.length c0) := (blk_cell h 0).trans rfl
theorem IsS24.new (w0 W : World) (A0 : Option Addr) (c0 : Nat) (f0 : List (List (S43))) (hB : Below w0.heap.size w0 W) (hr0 : Kd.C (Kd.slice 43 k43) w0 A0 f0.length f0) : IsS24 w0 (W.alloc (.cells #[.slice A0 f0.length c0] 24)) W.heap.size f0 := ⟨A0, c0, by simpa using heap_alloc_new W _, hB.size, hr0⟩
theorem gI24_ {w0 W W1 : World} {g : Nat} {f0 : List (List (S43))} {f0' : List (List (S43))} (h : IsS24 w0 W g f0) (hr : IsS24 w0 W g f0 → IsS24 w0 W1 g f0' := by (intro h_; repeat (first | (with_reducible first | exact h_ | apply IsS24.alloc | apply IsS24.drewN | apply IsS24.drew | refine IsS24.far ?_ (Aside0.out (by assumption)) _) | exact h_))) : IsS24 w0 W1 g f0' := hr h
def impl_Memory_load.f (k : Nat) (s0_0 : List (List (S43))) (l1 : List Int) (a2 : Int) (a3 : Int) (a4 : Bool) : Option (Int × List Int) := if 0 ≤ a2 then (if a2 < (s0_0.length : Int) then (if a2 < (l1.length : Int) then ((impl_copyInts.f l1).bind fun t145 => (if a2 < (t145.length : Int) then ((some (t145.set (a2 : Int).toNat (mx (wrap64 ((wrap64 (((rd_L3 s0_0 a2).length : Int) - 1)) - (mx a3 0))) (rd l1 a2)) : List Int)).bind fun y148 => (if 0 ≤ (mx (wrap64 ((wrap64 (((rd_L3 s0_0 a2).length : Int) - 1)) - (mx a3 0))) (rd l1 a2)) then (if (mx (wrap64 ((wrap64 (((rd_L3 s0_0 a2).length : Int) - 1)) - (mx a3 0))) (rd l1 a2)) < ((rd_L3 s0_0 a2).length : Int) then (if a4 = true then ((impl_Join.f k y148 ((rd_T43 (rd_L3 s0_0 a2) (mx (wrap64 ((wrap64 (((rd_L3 s0_0 a2).length : Int) - 1)) - (mx a3 0))) (rd l1 a2))).f1)).bind fun t152 => (some ((rd_T43 (rd_L3 s0_0 a2) (mx (wrap64 ((wrap64 (((rd_L3 s0_0 a2).length : Int) - 1)) - (mx a3 0))) (rd l1 a2))).f0, t152))) else (some ((rd_T43 (rd_L3 s0_0 a2) (mx (wrap64 ((wrap64 (((rd_L3 s0_0 a2).length : Int) - 1)) - (mx a3 0))) (rd l1 a2))).f0, y148))) else (none)) else (none))) else (none))) else (none)) else (none)) else (none)
set_option maxHeartbeats 8000000 in
set_option maxRecDepth 100000 in
theorem impl_Memory_load.calls (k : Nat) (g : Nat) (s0_0 : List (List (S43))) (A1 : Option Addr) (c1 : Nat) (l1 : List Int) (a2 : Int) (a3 : Int) (a4 : Bool) (r1 : Int) (r2 : List Int) (w0 w : World) (hI : IsS24 w0 w g s0_0) (hB : Below w0.heap.size w0 w) (hr1 : Kd.C (Kd.int .i64) w A1 l1.length l1) (hc1 : l1.length ≤ c1) (hf1 : ∀ ad, A1 = some ad → 0 < l1.length → ad.block ≠ g) (h : impl_Memory_load.f k s0_0 l1 a2 a3 a4 = some (r1, r2)) :
  Calls Try.prog 60 #[.pointer (some ⟨g, 0, none⟩), .slice A1 l1.length c1, .int .i64 a2, .int .i64 a3, .bool a4] w fun e w' => ∃ v1_ : Value, e = .returned (.tuple #[.int .i64 r1, v1_]) ∧ Kd.R (Kd.int .i64) 3 w' w.heap.size (fun _ => True) v1_ r2 ∧ IsS24 w0 w' g s0_0 ∧ Below w0.heap.size w0 w' ∧ KeepBut w w' g none := by
 have hu43 := Try.underlying43
 have HR1 := aM_ hr1
 have HC1 := aM_ hc1
 clear hr1 hc1
 have HI0 := aM_ hI
 have HK := aM_ (KeepBut.refl w g none)
 have HL := aM_ hB.size
 clear hI
 have HW0 := aM_ hB.size
 have HB := aM_ hB
 clear hB
 have H : (if 0 ≤ a2 then (if a2 < (s0_0.length : Int) then (if a2 < (l1.length : Int) then ((impl_copyInts.f l1).bind fun t145 => (if a2 < (t145.length : Int) then ((some (t145.set (a2 : Int).toNat (mx (wrap64 ((wrap64 (((rd_L3 s0_0 a2).length : Int) - 1)) - (mx a3 0))) (rd l1 a2)) : List Int)).bind fun y148 => (if 0 ≤ (mx (wrap64 ((wrap64 (((rd_L3 s0_0 a2).length : Int) - 1)) - (mx a3 0))) (rd l1 a2)) then (if (mx (wrap64 ((wrap64 (((rd_L3 s0_0 a2).length : Int) - 1)) - (mx a3 0))) (rd l1 a2)) < ((rd_L3 s0_0 a2).length : Int) then (if a4 = true then ((impl_Join.f k y148 ((rd_T43 (rd_L3 s0_0 a2) (mx (wrap64 ((wrap64 (((rd_L3 s0_0 a2).length : Int) - 1)) - (mx a3 0))) (rd l1 a2))).f1)).bind fun t152 => (some ((rd_T43 (rd_L3 s0_0 a2) (mx (wrap64 ((wrap64 (((rd_L3 s0_0 a2).length : Int) - 1)) - (mx a3 0))) (rd l1 a2))).f0, t152))) else (some ((rd_T43 (rd_L3 s0_0 a2) (mx (wrap64 ((wrap64 (((rd_L3 s0_0 a2).length : Int) - 1)) - (mx a3 0))) (rd l1 a2))).f0, y148))) else (none)) else (none))) else (none))) else (none)) else (none)) else (none)) = some (r1, r2) := h
 clear h
 by_cases c6 : 0 ≤ a2
 ·rw [if_pos c6] at H
  have c6b0 : decide (0 ≤ a2) = true := decide_eq_true c6
  clear c6
  by_cases c7 : a2 < (s0_0.length : Int)
  ·rw [if_pos c7] at H
   have c7b0 : decide (a2 < (s0_0.length : Int)) = true := decide_eq_true c7
   clear c7
   obtain ⟨ji8, hji8⟩ : ∃ j_ : Int, (mx a3 0) = j_ := ⟨_, rfl⟩
   replace H : (if a2 < (l1.length : Int) then ((impl_copyInts.f l1).bind fun t145 => (if a2 < (t145.length : Int) then ((some (t145.set (a2 : Int).toNat (mx (wrap64 ((wrap64 (((rd_L3 s0_0 a2).length : Int) - 1)) - (ji8))) (rd l1 a2)) : List Int)).bind fun y148 => (if 0 ≤ (mx (wrap64 ((wrap64 (((rd_L3 s0_0 a2).length : Int) - 1)) - (ji8))) (rd l1 a2)) then (if (mx (wrap64 ((wrap64 (((rd_L3 s0_0 a2).length : Int) - 1)) - (ji8))) (rd l1 a2)) < ((rd_L3 s0_0 a2).length : Int) then (if a4 = true then ((impl_Join.f k y148 ((rd_T43 (rd_L3 s0_0 a2) (mx (wrap64 ((wrap64 (((rd_L3 s0_0 a2).length : Int) - 1)) - (ji8))) (rd l1 a2))).f1)).bind fun t152 => (some ((rd_T43 (rd_L3 s0_0 a2) (mx (wrap64 ((wrap64 (((rd_L3 s0_0 a2).length : Int) - 1)) - (ji8))) (rd l1 a2))).f0, t152))) else (some ((rd_T43 (rd_L3 s0_0 a2) (mx (wrap64 ((wrap64 (((rd_L3 s0_0 a2).length : Int) - 1)) - (ji8))) (rd l1 a2))).f0, y148))) else (none)) else (none))) else (none))) else (none)) = some (r1, r2) := by first | (rw [hji8] at H; exact H) | (simp only [hji8] at H ⊢; exact H)
   (try (have hji8l : 0 ≤ ji8 := by (rw [← hji8]; unfold mx; (repeat' split) <;> omega)))
   (try (have hji8m : 0 ≤ ji8 := by omega))
   have hji8_ : (if a3 < 0 then 0 else a3) = ji8 := hji8
   by_cases c9 : a2 < (l1.length : Int)
   ·rw [if_pos c9] at H
    have c9b0 : decide (a2 < (l1.length : Int)) = true := decide_eq_true c9
    clear c9
    obtain ⟨ji10, hji10⟩ : ∃ j_ : Int, (mx (wrap64 ((wrap64 (((rd_L3 s0_0 a2).length : Int) - 1)) - (ji8))) (rd l1 a2)) = j_ := ⟨_, rfl⟩
    replace H : ((impl_copyInts.f l1).bind fun t145 => (if a2 < (t145.length : Int) then ((some (t145.set (a2 : Int).toNat (ji10) : List Int)).bind fun y148 => (if 0 ≤ (ji10) then (if (ji10) < ((rd_L3 s0_0 a2).length : Int) then (if a4 = true then ((impl_Join.f k y148 ((rd_T43 (rd_L3 s0_0 a2) (ji10)).f1)).bind fun t152 => (some ((rd_T43 (rd_L3 s0_0 a2) (ji10)).f0, t152))) else (some ((rd_T43 (rd_L3 s0_0 a2) (ji10)).f0, y148))) else (none)) else (none))) else (none))) = some (r1, r2) := by first | (rw [hji10] at H; exact H) | (simp only [hji10] at H ⊢; exact H)
    have hji10_ : (if (wrap64 ((wrap64 (((rd_L3 s0_0 a2).length : Int) - 1)) - (ji8))) < (rd l1 a2) then (rd l1 a2) else (wrap64 ((wrap64 (((rd_L3 s0_0 a2).length : Int) - 1)) - (ji8)))) = ji10 := hji10
    replace H := Option.bind_eq_some_iff.mp H
    obtain ⟨t145, A110, H⟩ := H
    replace H : (if a2 < (t145.length : Int) then ((some (t145.set (a2 : Int).toNat (ji10) : List Int)).bind fun y148 => (if 0 ≤ (ji10) then (if (ji10) < ((rd_L3 s0_0 a2).length : Int) then (if a4 = true then ((impl_Join.f k y148 ((rd_T43 (rd_L3 s0_0 a2) (ji10)).f1)).bind fun t152 => (some ((rd_T43 (rd_L3 s0_0 a2) (ji10)).f0, t152))) else (some ((rd_T43 (rd_L3 s0_0 a2) (ji10)).f0, y148))) else (none)) else (none))) else (none)) = some (r1, r2) := H
    have A11 := aM_ A110
    clear A110
    by_cases c12 : a2 < (t145.length : Int)
    ·rw [if_pos c12] at H
     have c12b0 : decide (a2 < (t145.length : Int)) = true := decide_eq_true c12
     clear c12
     obtain ⟨y148, hy148⟩ : ∃ y_ : List Int, y_ = (t145.set (a2 : Int).toNat (ji10)) := ⟨_, rfl⟩
     replace H : (if 0 ≤ (ji10) then (if (ji10) < ((rd_L3 s0_0 a2).length : Int) then (if a4 = true then ((impl_Join.f k y148 ((rd_T43 (rd_L3 s0_0 a2) (ji10)).f1)).bind fun t152 => (some ((rd_T43 (rd_L3 s0_0 a2) (ji10)).f0, t152))) else (some ((rd_T43 (rd_L3 s0_0 a2) (ji10)).f0, y148))) else (none)) else (none)) = some (r1, r2) := by first | (rw [hy148]; with_reducible exact H) | (have H2_ := (Option.bind_some _ _).symm.trans H; rw [hy148]; with_reducible exact H2_) | (have H2_ := (Option.bind_some _ _).symm.trans H; with_reducible exact H2_) | with_reducible exact H | (rw [hy148]; exact H) | exact H
     have Ny148 := aM_ hy148
     clear hy148
     by_cases c14 : 0 ≤ (ji10)
     ·rw [if_pos c14] at H
      have c14b0 : decide (0 ≤ (ji10)) = true := decide_eq_true c14
      clear c14
      by_cases c15 : (ji10) < ((rd_L3 s0_0 a2).length : Int)
      ·rw [if_pos c15] at H
       have c15b0 : decide ((ji10) < ((rd_L3 s0_0 a2).length : Int)) = true := decide_eq_true c15
       clear c15
       by_cases c16 : a4 = true
       ·subst c16
        have H1 : ((impl_Join.f k y148 ((rd_T43 (rd_L3 s0_0 a2) (ji10)).f1)).bind fun t152 => (some ((rd_T43 (rd_L3 s0_0 a2) (ji10)).f0, t152))) = some (r1, r2) := by rw [if_pos rfl] at H; exact H
        clear H
        have H := H1
        clear H1
        replace H := Option.bind_eq_some_iff.mp H
        obtain ⟨t152, A170, H⟩ := H
        replace H : (some ((rd_T43 (rd_L3 s0_0 a2) (ji10)).f0, t152)) = some (r1, r2) := H
        have A17 := aM_ A170
        clear A170
        simp only [Option.some.injEq, Prod.mk.injEq] at H
        obtain ⟨rfl, rfl⟩ := H
        obtain ⟨ASz18_0, cSz18_0, HGz18, hgz18, HSz18_0⟩ := HI0.out
        have hcz18_0 := cellS24_0 HGz18
        clear HGz18 hgz18
        have p143 : 0 ≤ (a2 : Int) := of_decide_eq_true (by first | (with_reducible assumption) | assumption)
        have q143 : a2 < (s0_0.length : Int) := of_decide_eq_true (by first | (with_reducible assumption) | assumption)
        obtain ⟨ad143, A143_0, c143_0, e143, hx143_0, hl143_0, hi143_0⟩ := at_L3 HSz18_0 a2 p143 q143
        cases e143
        replace hx143_0 := pw_cell_below HB.out hx143_0
        have HR143_0 := aM_ hi143_0
        have HC143_0 := aM_ hl143_0
        clear hi143_0 hl143_0
        replace p143 := eq_true p143
        replace q143 := eq_true q143
        have p144 : 0 ≤ (a2 : Int) := of_decide_eq_true (by first | (with_reducible assumption) | assumption)
        have q144 : a2 < (l1.length : Int) := of_decide_eq_true (by first | (with_reducible assumption) | assumption)
        obtain ⟨ad144, e144, hx144_0⟩ := Kd.at_int HR1.out a2 p144 q144
        cases e144
        replace hx144_0 := keep_cell HK.out hx144_0 (by first | (rw [add_block]; exact hf1 _ rfl (by omega)) | exact hf1 _ rfl (by omega) | exact hf1 ad144 rfl (by omega))
        replace p144 := eq_true p144
        replace q144 := eq_true q144
        go_enter Try.func60, Try.ntmps60
        go_wp2_with (first | ((with_reducible refine gate_callee (f := 58) rfl ?_); refine gL_ (some 35) Try.func58 #[.slice (some ad144) l1.length c1] ?_; (with_reducible refine (impl_copyInts.calls _ _ l1 t145 _ ?side1 ?side2 A11.out).mono ?_); (case side1 => exact Kd.C_keep 0 HR1.out (gK_ HK.out) hf1); (case side2 => exact HC1.out); rintro e w19 ⟨v146, rfl, ho0, hb⟩; refine ⟨_, rfl, ?_⟩; have n0 := aM_ (Kd.R_lower ho0 (keep_size (w := w) (g := g) (row := none) (gK_ HK.out))); have n1 := aM_ (IsS24.below (gI24_ HI0.out) hb); have n2 := aM_ HR143_0.out; have n3 := aM_ (KeepBut.trans (gK_ HK.out) (KeepBut.of_below hb g none) (.inl rfl)); have n4 := aM_ (below_step (gB24_ HB.out) hb); clear HI0; clear HR143_0; clear HK; clear HB; have HO147 := n0; have HI0 := n1; have HR143_0 := n2; have HK := n3; have HB := n4; clear n0 n1 n2 n3 n4; (try clear ho0); have p13 : 0 ≤ (a2 : Int) := of_decide_eq_true (by first | (with_reducible assumption) | assumption); have q13 : (a2 : Int) < ((t145.length : Int) : Int) := of_decide_eq_true (by first | (with_reducible assumption) | assumption); obtain ⟨go13, co13, eo13, gb13, gl13, cl13, HG13⟩ := Kd.R_form HO147.out (by omega); (first | cases eo13 | (injection eo13 with ea_ en_ ec_; (first | subst ea_ | (injection ea_ with ea_; subst ea_)); subst ec_; clear en_)); have GB13 := aM_ gb13; have GG13 := aM_ HG13; clear gb13 gl13 HG13; obtain ⟨hx13_0, hf13_0⟩ := Kd.R_celln 0 HO147.out (a2 : Int) p13 q13; replace p13 := eq_true p13; replace q13 := eq_true q13; obtain ⟨hy20_, hz20_⟩ := Kd.R_celln 0 HO147.out (a2 : Int) (of_decide_eq_true (by first | (with_reducible assumption) | assumption)) (of_decide_eq_true (by first | (with_reducible assumption) | assumption)); have HP20 := Kd.R_putg HO147.out (a2 : Int) ji10) | ((with_reducible refine gate_store (t := 3) (p := 39) rfl ?_); refine store_event (t := 3) (p := 39) (v := ?vo_w21) (w1 := (w19.setCell ⟨go13, (a2 : Int).toNat, none⟩ (.int .i64 ji10))) ?hg ?ho ?hn ?hr ?_; (case ho => rfl); (case hg => rfl); (case hn => rfl); (case hr => first | (go_simp; done) | (go_simp; rfl)); intro w21 hw; have hg : w19.grownBy w21 (some go13) := (by rw [hw]; exact HP20.2); have hp_ : Kd.R (Kd.int .i64) 3 w21 w.heap.size (fun _ => True) (.slice (some ⟨go13, 0, none⟩) t145.length co13) y148 := (by rw [hw, Ny148.out]; exact HP20.1); clear HP20; have n0 := aM_ (IsS24.grown (gI24_ HI0.out) hg (IsS24.own_ne HI0.out HO147.out (by decide))); have n1 := aM_ (hp_); have n2 := aM_ ((by rw [hw]; exact below_set (HB.out) (Nat.le_trans HL.out GB13.out) : Below w0.heap.size w0 w21)); have n3 := aM_ (KeepBut.trans (gK_ HK.out) (KeepBut.of_grown hg g) (Kd.R_base2 HO147.out)); clear HI0; clear HO147; clear HB; clear HK; have HI0 := n0; have HO147 := n1; have HB := n2; have HK := n3; clear n0 n1 n2 n3; clear hg hw hp_; obtain ⟨ASz22_0, cSz22_0, HGz22, hgz22, HSz22_0⟩ := HI0.out; have hcz22_0 := cellS24_0 HGz22; clear HGz22 hgz22; have p149 : 0 ≤ (a2 : Int) := of_decide_eq_true (by first | (with_reducible assumption) | assumption); have q149 : a2 < (s0_0.length : Int) := of_decide_eq_true (by first | (with_reducible assumption) | assumption); obtain ⟨ad149, A149_0, c149_0, e149, hx149_0, hl149_0, hi149_0⟩ := at_L3 HSz22_0 a2 p149 q149; cases e149; replace hx149_0 := pw_cell_below HB.out hx149_0; have HR149_0 := aM_ hi149_0; have HC149_0 := aM_ hl149_0; clear hi149_0 hl149_0; replace p149 := eq_true p149; replace q149 := eq_true q149; have p150 : 0 ≤ ((ji10) : Int) := of_decide_eq_true (by first | (with_reducible assumption) | assumption); have q150 : (ji10) < ((rd_L3 s0_0 a2).length : Int) := of_decide_eq_true (by first | (with_reducible assumption) | assumption); obtain ⟨ad150, A150_1, c150_1, e150, hx150_0, hx150_1, hl150_1, hi150_1⟩ := at_T43 HR149_0.out (ji10) p150 q150; cases e150; replace hx150_0 := pw_cell_below HB.out hx150_0; replace hx150_1 := pw_cell_below HB.out hx150_1; have HR150_1 := aM_ hi150_1; have HC150_1 := aM_ hl150_1; clear hi150_1 hl150_1; replace p150 := eq_true p150; replace q150 := eq_true q150) | ((with_reducible refine gate_dst (N := 15) rfl ?_); refine bX_ 15 (cs := #[.int .i64 0, .slice none 0 0]) (t := 43) ?_; intro gb151 hg w23 hbox hb; have n0 := aM_ (bR_ HO147.out hb); have n1 := aM_ (IsS24.below (gI24_ HI0.out) hb); have n2 := aM_ HR149_0.out; have n3 := aM_ (KeepBut.trans (gK_ HK.out) (KeepBut.of_below hb g none) (.inl rfl)); have n4 := aM_ (below_step (gB24_ HB.out) hb); have n5 := aM_ (hbox); have n6 := aM_ ((by rw [hg]; exact (keep_size (w := w) (g := g) (row := none) (gK_ HK.out)) : w.heap.size ≤ gb151)); have n7 := aM_ ((Nat.le_trans HW0.out (by rw [hg]; exact (keep_size (w := w) (g := g) (row := none) (gK_ HK.out)) : w.heap.size ≤ gb151) : w0.heap.size ≤ gb151)); have n8 := aM_ ((by rw [hg]; exact Nat.ne_of_lt (IsS24.lt (show IsS24 w0 _ g s0_0 from gI24_ HI0.out)) : g ≠ gb151)); have n9 := aM_ ((by rw [hg]; exact Nat.ne_of_gt (IsS24.lt (show IsS24 w0 _ g s0_0 from gI24_ HI0.out)) : gb151 ≠ g)); clear HO147; clear HI0; clear HR149_0; clear HK; clear HB; have HO147 := n0; have HI0 := n1; have HR149_0 := n2; have HK := n3; have HB := n4; have BK151 := n5; have GW151 := n6; have GE151 := n7; have NB0_151 := n8; have NB151_0 := n9; clear n0 n1 n2 n3 n4 n5 n6 n7 n8 n9; clear hb hbox hg; have hnb24 := NB151_0.out; have hnc24 := NB0_151.out; obtain ⟨hcz25_0, hcz25_1, hfz25_0, hfz25_1⟩ := bR2_ BK151.out) | ((with_reducible refine gate_callee (f := 94) rfl ?_); refine goesL_ (some 54) rfl rfl Try.func94 (by kernel_rfl) rfl #[.slice (some ⟨go13, 0, none⟩) y148.length co13, .slice A150_1 ((rd_T43 (rd_L3 s0_0 a2) (ji10)).f1).length c150_1] rfl (by (try simp only [List.map_toArray, List.map_cons, List.map_nil]); first | done | (rw [show y148.length = t145.length from (Kd.R_reads' HO147.out).1.symm] <;> rfl) | (simp only [hji10]; rfl) | rfl | (simp only [List.length_drop, List.length_take]; rfl)) ?_; (with_reducible refine (impl_Join.calls k _ _ y148 _ _ ((rd_T43 (rd_L3 s0_0 a2) (ji10)).f1) t152 _ ?side1 ?side2 ?side3 ?side4 A17.out).mono ?_); (case side1 => refine (Kd.R_reads' (e := 3) (base := w.heap.size) (ok := fun k_ => True) (n := t145.length) (c := co13) ?_).2.2; exact (by (with_reducible repeat (first | apply rA_ | apply rN_ | apply rD_)); exact (Kd.R_mono (Kd.R_far (p := ⟨gb151, 1, none⟩) (Kd.R_far (p := ⟨gb151, 0, none⟩) (Kd.R_types HO147.out BK151.out (by decide)) (fun _ hk => hk.2) (.int .i64 ((rd_T43 (rd_L3 s0_0 a2) (ji10)).f0))) (fun _ hk => hk.2) (.slice A150_1 ((rd_T43 (rd_L3 s0_0 a2) (ji10)).f1).length c150_1)) (fun _ h_ => h_.1)))); (case side2 => rw [show y148.length = t145.length from (Kd.R_reads' HO147.out).1.symm]; exact (Kd.R_reads' HO147.out).2.1); (case side3 => exact Kd.C_below HR150_1.out (gB_ HB.out)); (case side4 => exact HC150_1.out); rintro e w26 ⟨v153, rfl, ho0, hb⟩; refine ⟨_, rfl, ?_⟩; have n0 := aM_ (Kd.R_elder' (by (with_reducible repeat (first | apply rA_ | apply rN_ | apply rD_)); exact (Kd.R_mono (Kd.R_far (p := ⟨gb151, 1, none⟩) (Kd.R_far (p := ⟨gb151, 0, none⟩) (Kd.R_types HO147.out BK151.out (by decide)) (fun _ hk => hk.2) (.int .i64 ((rd_T43 (rd_L3 s0_0 a2) (ji10)).f0))) (fun _ hk => hk.2) (.slice A150_1 ((rd_T43 (rd_L3 s0_0 a2) (ji10)).f1).length c150_1)) (fun _ h_ => h_.1))) (Kd.R_base ho0) hb); have n1 := aM_ (Kd.R_lower (Kd.R_new' ho0 (Kd.R_lt (by (with_reducible repeat (first | apply rA_ | apply rN_ | apply rD_)); exact (Kd.R_mono (Kd.R_far (p := ⟨gb151, 1, none⟩) (Kd.R_far (p := ⟨gb151, 0, none⟩) (Kd.R_types HO147.out BK151.out (by decide)) (fun _ hk => hk.2) (.int .i64 ((rd_T43 (rd_L3 s0_0 a2) (ji10)).f0))) (fun _ hk => hk.2) (.slice A150_1 ((rd_T43 (rd_L3 s0_0 a2) (ji10)).f1).length c150_1)) (fun _ h_ => h_.1))))) (keep_size (w := w) (g := g) (row := none) (gK_ HK.out))); have n2 := aM_ (IsS24.below (show IsS24 w0 ((w23.setCell ⟨gb151, 0, none⟩ (.int .i64 ((rd_T43 (rd_L3 s0_0 a2) (ji10)).f0))).setCell ⟨gb151, 1, none⟩ (.slice A150_1 ((rd_T43 (rd_L3 s0_0 a2) (ji10)).f1).length c150_1)) g s0_0 from gI24_ HI0.out) hb); have n3 := aM_ HR149_0.out; have n4 := aM_ (blk_below (g := gb151) (o := .cells #[.int .i64 ((rd_T43 (rd_L3 s0_0 a2) (ji10)).f0), .slice A150_1 ((rd_T43 (rd_L3 s0_0 a2) (ji10)).f1).length c150_1] 43 (0, 0)) (by (with_reducible repeat (first | refine bN_ ?_ _ | refine bD_ ?_ | refine bA_ ?_ _)); refine blk_put (cs := #[.int .i64 ((rd_T43 (rd_L3 s0_0 a2) (ji10)).f0), .slice none 0 0]) ?_ 1 _ rfl; (with_reducible repeat (first | refine bN_ ?_ _ | refine bD_ ?_ | refine bA_ ?_ _)); refine blk_put (cs := #[.int .i64 0, .slice none 0 0]) ?_ 0 _ rfl; (with_reducible repeat (first | refine bN_ ?_ _ | refine bD_ ?_ | refine bA_ ?_ _)); exact BK151.out) hb); have n5 := aM_ (KeepBut.trans (gK_ HK.out) (KeepBut.of_below hb g none) (.inl rfl)); have n6 := aM_ (below_step (gB24_ HB.out) hb); clear HO147; clear HI0; clear HR149_0; clear BK151; clear HK; clear HB; have HO147 := n0; have HO154 := n1; have HI0 := n2; have HR149_0 := n3; have BK151 := n4; have HK := n5; have HB := n6; clear n0 n1 n2 n3 n4 n5 n6; (try clear ho0); obtain ⟨hcz27_0, hcz27_1, hfz27_0, hfz27_1⟩ := bR2_ BK151.out))
        go_ret2
        exact ⟨_, by first | rfl | (simp [errW_none, errW_some] <;> rfl) | (simp only [← hji8, ← hji10]; first | rfl | (simp [errW_none, errW_some] <;> rfl)) | (simp [*, errW_none, errW_some] <;> rfl), by (with_reducible repeat (first | apply rA_ | apply rN_ | apply rD_)); exact Kd.R_mono HO154.out (fun _ hk => trivial), gI24_ HI0.out, gB24_ HB.out, gK_ HK.out⟩
       ·replace c16 := Bool.eq_false_iff.mpr c16
        subst c16
        have H1 : (some ((rd_T43 (rd_L3 s0_0 a2) (ji10)).f0, y148)) = some (r1, r2) := by rw [if_neg (show ¬ (false = true) by decide)] at H; exact H
        clear H
        have H := H1
        clear H1
        simp only [Option.some.injEq, Prod.mk.injEq] at H
        obtain ⟨rfl, rfl⟩ := H
        obtain ⟨ASz28_0, cSz28_0, HGz28, hgz28, HSz28_0⟩ := HI0.out
        have hcz28_0 := cellS24_0 HGz28
        clear HGz28 hgz28
        have p143 : 0 ≤ (a2 : Int) := of_decide_eq_true (by first | (with_reducible assumption) | assumption)
        have q143 : a2 < (s0_0.length : Int) := of_decide_eq_true (by first | (with_reducible assumption) | assumption)
        obtain ⟨ad143, A143_0, c143_0, e143, hx143_0, hl143_0, hi143_0⟩ := at_L3 HSz28_0 a2 p143 q143
        cases e143
        replace hx143_0 := pw_cell_below HB.out hx143_0
        have HR143_0 := aM_ hi143_0
        have HC143_0 := aM_ hl143_0
        clear hi143_0 hl143_0
        replace p143 := eq_true p143
        replace q143 := eq_true q143
        have p144 : 0 ≤ (a2 : Int) := of_decide_eq_true (by first | (with_reducible assumption) | assumption)
        have q144 : a2 < (l1.length : Int) := of_decide_eq_true (by first | (with_reducible assumption) | assumption)
        obtain ⟨ad144, e144, hx144_0⟩ := Kd.at_int HR1.out a2 p144 q144
        cases e144
        replace hx144_0 := keep_cell HK.out hx144_0 (by first | (rw [add_block]; exact hf1 _ rfl (by omega)) | exact hf1 _ rfl (by omega) | exact hf1 ad144 rfl (by omega))
        replace p144 := eq_true p144
        replace q144 := eq_true q144
        go_enter Try.func60, Try.ntmps60
        go_wp2_with (first | ((with_reducible refine gate_callee (f := 58) rfl ?_); refine gL_ (some 35) Try.func58 #[.slice (some ad144) l1.length c1] ?_; (with_reducible refine (impl_copyInts.calls _ _ l1 t145 _ ?side1 ?side2 A11.out).mono ?_); (case side1 => exact Kd.C_keep 0 HR1.out (gK_ HK.out) hf1); (case side2 => exact HC1.out); rintro e w29 ⟨v146, rfl, ho0, hb⟩; refine ⟨_, rfl, ?_⟩; have n0 := aM_ (Kd.R_lower ho0 (keep_size (w := w) (g := g) (row := none) (gK_ HK.out))); have n1 := aM_ (IsS24.below (gI24_ HI0.out) hb); have n2 := aM_ HR143_0.out; have n3 := aM_ (KeepBut.trans (gK_ HK.out) (KeepBut.of_below hb g none) (.inl rfl)); have n4 := aM_ (below_step (gB24_ HB.out) hb); clear HI0; clear HR143_0; clear HK; clear HB; have HO147 := n0; have HI0 := n1; have HR143_0 := n2; have HK := n3; have HB := n4; clear n0 n1 n2 n3 n4; (try clear ho0); have p13 : 0 ≤ (a2 : Int) := of_decide_eq_true (by first | (with_reducible assumption) | assumption); have q13 : (a2 : Int) < ((t145.length : Int) : Int) := of_decide_eq_true (by first | (with_reducible assumption) | assumption); obtain ⟨go13, co13, eo13, gb13, gl13, cl13, HG13⟩ := Kd.R_form HO147.out (by omega); (first | cases eo13 | (injection eo13 with ea_ en_ ec_; (first | subst ea_ | (injection ea_ with ea_; subst ea_)); subst ec_; clear en_)); have GB13 := aM_ gb13; have GG13 := aM_ HG13; clear gb13 gl13 HG13; obtain ⟨hx13_0, hf13_0⟩ := Kd.R_celln 0 HO147.out (a2 : Int) p13 q13; replace p13 := eq_true p13; replace q13 := eq_true q13; obtain ⟨hy30_, hz30_⟩ := Kd.R_celln 0 HO147.out (a2 : Int) (of_decide_eq_true (by first | (with_reducible assumption) | assumption)) (of_decide_eq_true (by first | (with_reducible assumption) | assumption)); have HP30 := Kd.R_putg HO147.out (a2 : Int) ji10) | ((with_reducible refine gate_store (t := 3) (p := 39) rfl ?_); refine store_event (t := 3) (p := 39) (v := ?vo_w31) (w1 := (w29.setCell ⟨go13, (a2 : Int).toNat, none⟩ (.int .i64 ji10))) ?hg ?ho ?hn ?hr ?_; (case ho => rfl); (case hg => rfl); (case hn => rfl); (case hr => first | (go_simp; done) | (go_simp; rfl)); intro w31 hw; have hg : w29.grownBy w31 (some go13) := (by rw [hw]; exact HP30.2); have hp_ : Kd.R (Kd.int .i64) 3 w31 w.heap.size (fun _ => True) (.slice (some ⟨go13, 0, none⟩) t145.length co13) y148 := (by rw [hw, Ny148.out]; exact HP30.1); clear HP30; have n0 := aM_ (IsS24.grown (gI24_ HI0.out) hg (IsS24.own_ne HI0.out HO147.out (by decide))); have n1 := aM_ (hp_); have n2 := aM_ ((by rw [hw]; exact below_set (HB.out) (Nat.le_trans HL.out GB13.out) : Below w0.heap.size w0 w31)); have n3 := aM_ (KeepBut.trans (gK_ HK.out) (KeepBut.of_grown hg g) (Kd.R_base2 HO147.out)); clear HI0; clear HO147; clear HB; clear HK; have HI0 := n0; have HO147 := n1; have HB := n2; have HK := n3; clear n0 n1 n2 n3; clear hg hw hp_; obtain ⟨ASz32_0, cSz32_0, HGz32, hgz32, HSz32_0⟩ := HI0.out; have hcz32_0 := cellS24_0 HGz32; clear HGz32 hgz32; have p149 : 0 ≤ (a2 : Int) := of_decide_eq_true (by first | (with_reducible assumption) | assumption); have q149 : a2 < (s0_0.length : Int) := of_decide_eq_true (by first | (with_reducible assumption) | assumption); obtain ⟨ad149, A149_0, c149_0, e149, hx149_0, hl149_0, hi149_0⟩ := at_L3 HSz32_0 a2 p149 q149; cases e149; replace hx149_0 := pw_cell_below HB.out hx149_0; have HR149_0 := aM_ hi149_0; have HC149_0 := aM_ hl149_0; clear hi149_0 hl149_0; replace p149 := eq_true p149; replace q149 := eq_true q149; have p150 : 0 ≤ ((ji10) : Int) := of_decide_eq_true (by first | (with_reducible assumption) | assumption); have q150 : (ji10) < ((rd_L3 s0_0 a2).length : Int) := of_decide_eq_true (by first | (with_reducible assumption) | assumption); obtain ⟨ad150, A150_1, c150_1, e150, hx150_0, hx150_1, hl150_1, hi150_1⟩ := at_T43 HR149_0.out (ji10) p150 q150; cases e150; replace hx150_0 := pw_cell_below HB.out hx150_0; replace hx150_1 := pw_cell_below HB.out hx150_1; have HR150_1 := aM_ hi150_1; have HC150_1 := aM_ hl150_1; clear hi150_1 hl150_1; replace p150 := eq_true p150; replace q150 := eq_true q150) | ((with_reducible refine gate_dst (N := 15) rfl ?_); refine bX_ 15 (cs := #[.int .i64 0, .slice none 0 0]) (t := 43) ?_; intro gb151 hg w33 hbox hb; have n0 := aM_ (bR_ HO147.out hb); have n1 := aM_ (IsS24.below (gI24_ HI0.out) hb); have n2 := aM_ HR149_0.out; have n3 := aM_ (KeepBut.trans (gK_ HK.out) (KeepBut.of_below hb g none) (.inl rfl)); have n4 := aM_ (below_step (gB24_ HB.out) hb); have n5 := aM_ (hbox); have n6 := aM_ ((by rw [hg]; exact (keep_size (w := w) (g := g) (row := none) (gK_ HK.out)) : w.heap.size ≤ gb151)); have n7 := aM_ ((Nat.le_trans HW0.out (by rw [hg]; exact (keep_size (w := w) (g := g) (row := none) (gK_ HK.out)) : w.heap.size ≤ gb151) : w0.heap.size ≤ gb151)); have n8 := aM_ ((by rw [hg]; exact Nat.ne_of_lt (IsS24.lt (show IsS24 w0 _ g s0_0 from gI24_ HI0.out)) : g ≠ gb151)); have n9 := aM_ ((by rw [hg]; exact Nat.ne_of_gt (IsS24.lt (show IsS24 w0 _ g s0_0 from gI24_ HI0.out)) : gb151 ≠ g)); clear HO147; clear HI0; clear HR149_0; clear HK; clear HB; have HO147 := n0; have HI0 := n1; have HR149_0 := n2; have HK := n3; have HB := n4; have BK151 := n5; have GW151 := n6; have GE151 := n7; have NB0_151 := n8; have NB151_0 := n9; clear n0 n1 n2 n3 n4 n5 n6 n7 n8 n9; clear hb hbox hg; have hnb34 := NB151_0.out; have hnc34 := NB0_151.out; obtain ⟨hcz35_0, hcz35_1, hfz35_0, hfz35_1⟩ := bR2_ BK151.out))
        go_ret2
        exact ⟨_, by first | rfl | (simp [errW_none, errW_some] <;> rfl) | (simp only [← hji8, ← hji10]; first | rfl | (simp [errW_none, errW_some] <;> rfl)) | (simp [*, errW_none, errW_some] <;> rfl), by (with_reducible repeat (first | apply rA_ | apply rN_ | apply rD_)); exact Kd.R_mono (Kd.R_far (p := ⟨gb151, 1, none⟩) (Kd.R_far (p := ⟨gb151, 0, none⟩) (Kd.R_types HO147.out BK151.out (by decide)) (fun _ hk => hk.2) (.int .i64 ((rd_T43 (rd_L3 s0_0 a2) (ji10)).f0))) (fun _ hk => hk.2) (.slice A150_1 ((rd_T43 (rd_L3 s0_0 a2) (ji10)).f1).length c150_1)) (fun _ hk => trivial), gI24_ HI0.out, gB24_ HB.out, gK_ HK.out⟩
      ·rw [if_neg c15] at H
       exact absurd H (by simp)
     ·rw [if_neg c14] at H
      exact absurd H (by simp)
    ·rw [if_neg c12] at H
     exact absurd H (by simp)
   ·rw [if_neg c9] at H
    exact absurd H (by simp)
  ·rw [if_neg c7] at H
   exact absurd H (by simp)
 ·rw [if_neg c6] at H
  exact absurd H (by simp)
end Go.Proofs.Ythbcnakmnbilhaa.PFnExactLoad
