/- A part of the proof that the law FnExactMemoryNew holds for every input: the words, functions and walks that its row needs, without a condition of their own. -/
import Derived.ProofKit
import Derived.DataElems
import Derived.ChangeArms
import Derived.SizedLaws
import Derived.Test.YthbcnakmnbilhaaZFnExactMemoryNewa0
import Derived.Test.YthbcnakmnbilhaaZFnExactMemoryNewa1
import Derived.Test.YthbcnakmnbilhaaZFnExactMemoryNewa2
import Derived.Test.YthbcnakmnbilhaaZFnExactMemoryNewa3
import Derived.Test.YthbcnakmnbilhaaZFnExactMemoryNews
namespace Go.Proofs.Ythbcnakmnbilhaa.PFnExactMemoryNew
open Go.RowKit Go.Proofs.YthbcnakmnbilhaaW.PrintWords Go.Proofs.YthbcnakmnbilhaaW.PrintLast Go.Proofs.YthbcnakmnbilhaaW.PrintMore Go.Proofs.Ythbcnakmnbilhaa.Marks Go.Proofs.Ythbcnakmnbilhaa.LawKit Go.Proofs.Ythbcnakmnbilhaa.SepMark
set_option linter.unusedVariables false
set_option linter.unusedSimpArgs false
attribute [local go_sem] max2_int min2_int max_two min_two max_three min_three max_four min_four
theorem repN43 : RepN k43 (.pair .int (.sl .int)) wt43 := RepN.iso (RepN.pair RepN.int (RepN.slice RepN.int Loose.int 3) (.inl Flat.int)) _
set_option maxHeartbeats 16000000 in
set_option maxRecDepth 100000 in
theorem FnExactMemoryNew_main (k : Nat) (t1 : List (List (S43))) (t2 : List (List (S43))) (t3 : List (List (S43))) (w : World) (pA1 : spec_MemoryNew.f k = some t1) (pA4 : impl_MemoryNew.f k = some t2) (pA7 : laws_eqMemory.f k t2 t1 = some true) (hwt8 : wsum (wsum wt43) t2 ≤ 1152921504606846976) (pA10 : impl_MemoryNew.f k = some t3) (pA13 : laws_eqMemory.f k t3 t1 = some true) :
  Calls Try.prog 3 #[] w fun e w' => e = .returned (.bool true) ∧ Below w.heap.size w w' := by
 have A1 := Aside0.mk pA1
 clear pA1
 have A4 := Aside0.mk pA4
 clear pA4
 have A7 := Aside0.mk pA7
 clear pA7
 have A10 := Aside0.mk pA10
 clear pA10
 have A13 := Aside0.mk pA13
 clear pA13
 have hu24 := Try.underlying24
 have HB := Aside0.mk (Below.refl w.heap.size w)
 go_enter Try.func3, Try.ntmps3
 go_wp2_with (first | ((with_reducible refine gate_callee (f := 13) rfl ?_); refine gL_ (some 6) Try.func13 #[] ?_; (with_reducible refine (spec_MemoryNew.calls k t1 _ A1.out).mono ?_); rintro e w1 ⟨vv1_0, rfl, ho0, hb⟩; refine ⟨_, rfl, ?_⟩; obtain ⟨lo1, hi1, hl1, hl2, hl3, hnew⟩ := St.new (w.heap.size) HB.out.size hb.size; have HN1 : Aside0 (w.heap.size ≤ lo1 ∧ lo1 ≤ hi1) := ⟨hl1, hl2⟩; replace HB := Aside0.mk (below_step HB.out hb); obtain ⟨Ao1_0, co1_0, eo⟩ := Kd.R_slice (Kd.S_R ho0); subst eo; have HV1_0 := Aside0.mk (hnew _ _ _ _ _ _ (Kd.S_R ho0)); have HIHV1_0 : Aside0 (hi1 ≤ hi1) := ⟨Nat.le_refl _⟩; clear ho0; clear hnew hl1 hl2 hl3; clear hb) | ((with_reducible refine gate_dst (N := 1) rfl ?_); refine bX_ 1 (cs := #[.slice none 0 0]) (t := 24) ?_; intro gb2 hg w2 hbox hb; have HN2 : Aside0 (hi1 ≤ gb2) := ⟨by rw [hg]; exact HV1_0.out.1⟩; replace HV1_0 := Aside0.mk (HV1_0.out.below hb); replace HB := Aside0.mk (below_step HB.out hb); have BK2 := Aside0.mk hbox; clear hg hbox hb; have hz2_2_0 : w2.cell? ⟨gb2, 0, none⟩ = some (.slice none 0 0) := (blk_cell BK2.out 0).trans rfl; have hf2_2_0 := blk_frozen BK2.out 0; replace HV1_0 := Aside0.mk (HV1_0.out.set (o := 0) (g := gb2) (by have q0_ := HN1.out; have q1_ := HN2.out; have q2_ := HIHV1_0.out; omega) (.slice Ao1_0 t1.length co1_0)); replace BK2 := Aside0.mk (show (w2.setCell ⟨gb2, 0, none⟩ (.slice Ao1_0 t1.length co1_0)).heap[gb2]? = some (.cells #[.slice Ao1_0 t1.length co1_0] 24 (0, 0)) from (blk_put (cs := #[.slice none 0 0]) BK2.out 0 (.slice Ao1_0 t1.length co1_0) rfl)); replace HB := Aside0.mk (show Below w.heap.size w (w2.setCell ⟨gb2, 0, none⟩ (.slice Ao1_0 t1.length co1_0)) from (below_set (j := 0) (v := .slice Ao1_0 t1.length co1_0) HB.out (by have q0_ := HN1.out; have q1_ := HN2.out; omega))); have hz3_2_0 : (w2.setCell ⟨gb2, 0, none⟩ (.slice Ao1_0 t1.length co1_0)).cell? ⟨gb2, 0, none⟩ = some (.slice Ao1_0 t1.length co1_0) := (blk_cell BK2.out 0).trans rfl; have hf3_2_0 := blk_frozen BK2.out 0) | ((with_reducible refine gate_callee (f := 14) rfl ?_); refine gL_ (some 7) Try.func14 #[] ?_; (with_reducible refine (impl_MemoryNew.calls k t2 _ A4.out).mono ?_); rintro e w4 ⟨vv4_0, rfl, ho0, hb⟩; refine ⟨_, rfl, ?_⟩; obtain ⟨lo4, hi4, hl1, hl2, hl3, hnew, hnewS⟩ := St.newS (gb2 + 1) (blk_lt BK2.out) hb.size; have HN4 : Aside0 (gb2 + 1 ≤ lo4 ∧ lo4 ≤ hi4) := ⟨hl1, hl2⟩; replace HV1_0 := Aside0.mk (HV1_0.out.below hb); replace BK2 := Aside0.mk (blk_below (g := gb2) (o := .cells #[.slice Ao1_0 t1.length co1_0] 24 (0, 0)) BK2.out hb); replace HB := Aside0.mk (below_step HB.out hb); obtain ⟨Ao4_0, co4_0, eo⟩ := Kd.R_slice (Kd.S_R ho0); subst eo; obtain ⟨Ax_, cx_, LS4_0, ex_, hrv_, hll_, hnd_, _⟩ := RepN.row (RepN.sslice repN43 43) (hnewS _ _ _ _ _ _ ho0); injection ex_ with ex1_ ex2_ ex3_; subst ex1_; subst ex3_; have HRHV4_0 := Aside0.mk (St.of_row hl3 (RowV.mono (fun _ hk => hk.2) hrv_)); have HLHV4_0 := Aside0.mk hll_; have HDHV4_0 := Aside0.mk hnd_; clear hrv_ hll_ hnd_ ex2_; have HIHRHV4_0 : Aside0 (hi4 ≤ hi4) := ⟨Nat.le_refl _⟩; have HV4_0 := Aside0.mk (hnew _ _ _ _ _ _ (Kd.S_R ho0)); have HIHV4_0 : Aside0 (hi4 ≤ hi4) := ⟨Nat.le_refl _⟩; clear ho0; clear hnew hl1 hl2 hl3 hnewS; clear hb; (try clear hz2_2_0); (try clear hf2_2_0); (try clear hz3_2_0); (try clear hf3_2_0); have hz4_2_0 : w4.cell? ⟨gb2, 0, none⟩ = some (.slice Ao1_0 t1.length co1_0) := (blk_cell BK2.out 0).trans rfl; have hf4_2_0 := blk_frozen BK2.out 0) | ((with_reducible refine gate_dst (N := 2) rfl ?_); refine bX_ 2 (cs := #[.slice none 0 0]) (t := 24) ?_; intro gb5 hg w5 hbox hb; have HN5 : Aside0 (hi4 ≤ gb5) := ⟨by rw [hg]; exact HRHV4_0.out.1⟩; replace HV1_0 := Aside0.mk (HV1_0.out.below hb); replace HRHV4_0 := Aside0.mk (HRHV4_0.out.below hb); replace HV4_0 := Aside0.mk (HV4_0.out.below hb); replace BK2 := Aside0.mk (blk_below (g := gb2) (o := .cells #[.slice Ao1_0 t1.length co1_0] 24 (0, 0)) BK2.out hb); replace HB := Aside0.mk (below_step HB.out hb); have BK5 := Aside0.mk hbox; clear hg hbox hb; (try clear hz4_2_0); (try clear hf4_2_0); have hz5_2_0 : w5.cell? ⟨gb2, 0, none⟩ = some (.slice Ao1_0 t1.length co1_0) := (blk_cell BK2.out 0).trans rfl; have hf5_2_0 := blk_frozen BK2.out 0; have hz5_5_0 : w5.cell? ⟨gb5, 0, none⟩ = some (.slice none 0 0) := (blk_cell BK5.out 0).trans rfl; have hf5_5_0 := blk_frozen BK5.out 0; replace HV1_0 := Aside0.mk (HV1_0.out.set (o := 0) (g := gb5) (by have q0_ := HN1.out; have q1_ := HN2.out; have q2_ := HN4.out; have q3_ := HN5.out; have q4_ := HIHV1_0.out; omega) (.slice Ao4_0 t2.length co4_0)); replace HRHV4_0 := Aside0.mk (HRHV4_0.out.set (o := 0) (g := gb5) (by have q0_ := HN1.out; have q1_ := HN2.out; have q2_ := HN4.out; have q3_ := HN5.out; have q4_ := HIHRHV4_0.out; omega) (.slice Ao4_0 t2.length co4_0)); replace HV4_0 := Aside0.mk (HV4_0.out.set (o := 0) (g := gb5) (by have q0_ := HN1.out; have q1_ := HN2.out; have q2_ := HN4.out; have q3_ := HN5.out; have q4_ := HIHV4_0.out; omega) (.slice Ao4_0 t2.length co4_0)); replace BK2 := Aside0.mk (blk_far (p := ⟨gb5, 0, none⟩) BK2.out (by show gb2 ≠ gb5; have q0_ := HN1.out; have q1_ := HN2.out; have q2_ := HN4.out; have q3_ := HN5.out; omega) (.slice Ao4_0 t2.length co4_0)); replace BK5 := Aside0.mk (show (w5.setCell ⟨gb5, 0, none⟩ (.slice Ao4_0 t2.length co4_0)).heap[gb5]? = some (.cells #[.slice Ao4_0 t2.length co4_0] 24 (0, 0)) from (blk_put (cs := #[.slice none 0 0]) BK5.out 0 (.slice Ao4_0 t2.length co4_0) rfl)); replace HB := Aside0.mk (show Below w.heap.size w (w5.setCell ⟨gb5, 0, none⟩ (.slice Ao4_0 t2.length co4_0)) from (below_set (j := 0) (v := .slice Ao4_0 t2.length co4_0) HB.out (by have q0_ := HN1.out; have q1_ := HN2.out; have q2_ := HN4.out; have q3_ := HN5.out; omega))); have hz6_2_0 : (w5.setCell ⟨gb5, 0, none⟩ (.slice Ao4_0 t2.length co4_0)).cell? ⟨gb2, 0, none⟩ = some (.slice Ao1_0 t1.length co1_0) := (blk_cell BK2.out 0).trans rfl; have hf6_2_0 := blk_frozen BK2.out 0; have hz6_5_0 : (w5.setCell ⟨gb5, 0, none⟩ (.slice Ao4_0 t2.length co4_0)).cell? ⟨gb5, 0, none⟩ = some (.slice Ao4_0 t2.length co4_0) := (blk_cell BK5.out 0).trans rfl; have hf6_5_0 := blk_frozen BK5.out 0) | ((with_reducible refine gate_callee (f := 15) rfl ?_); refine gL_ (some 10) Try.func15 #[.agg #[.slice Ao4_0 t2.length co4_0], .agg #[.slice Ao1_0 t1.length co1_0]] ?_; (with_reducible refine (laws_eqMemory.calls k _ _ t2 _ _ t1 true _ ?side1 ?side2 ?side3 ?side4 A7.out).mono ?_); (case side1 => exact HV4_0.out.reads); (case side2 => exact HV4_0.out.room); (case side3 => exact HV1_0.out.reads); (case side4 => exact HV1_0.out.room); rintro e w7 ⟨rfl, hb⟩; refine ⟨_, rfl, ?_⟩; replace HV1_0 := Aside0.mk (HV1_0.out.below hb); replace HRHV4_0 := Aside0.mk (HRHV4_0.out.below hb); replace HV4_0 := Aside0.mk (HV4_0.out.below hb); replace BK2 := Aside0.mk (blk_below (g := gb2) (o := .cells #[.slice Ao1_0 t1.length co1_0] 24 (0, 0)) BK2.out hb); replace BK5 := Aside0.mk (blk_below (g := gb5) (o := .cells #[.slice Ao4_0 t2.length co4_0] 24 (0, 0)) BK5.out hb); replace HB := Aside0.mk (below_step HB.out hb); clear hb; (try clear hz5_2_0); (try clear hf5_2_0); (try clear hz5_5_0); (try clear hf5_5_0); (try clear hz6_2_0); (try clear hf6_2_0); (try clear hz6_5_0); (try clear hf6_5_0); have hz7_2_0 : w7.cell? ⟨gb2, 0, none⟩ = some (.slice Ao1_0 t1.length co1_0) := (blk_cell BK2.out 0).trans rfl; have hf7_2_0 := blk_frozen BK2.out 0; have hz7_5_0 : w7.cell? ⟨gb5, 0, none⟩ = some (.slice Ao4_0 t2.length co4_0) := (blk_cell BK5.out 0).trans rfl; have hf7_5_0 := blk_frozen BK5.out 0) | ((with_reducible refine gate_callee (f := 16) rfl ?_); have hll8_0 := HLHV4_0.out; have HW8_0 := HRHV4_0; have hrv8_0 := HW8_0.out.now; clear HRHV4_0; have HX8 : Aside0 ((0 : Int) ≤ 1 ∧ (1 + (LS4_0.length : Int) : Int) ≤ 4611686018427387904) := ⟨by have l0_ := hll8_0; have b_ := hwt8; omega⟩; have HLB8_0 : Aside0 (LS4_0.length ≤ 1152921504606846976) := ⟨by have l0_ := hll8_0; have b_ := hwt8; omega⟩; clear hll8_0; refine gL_ (some 14) Try.func16 #[.agg #[.slice Ao4_0 t2.length co4_0], .int .i64 1] ?_; refine (wr_markMemory (fun k_ => lo4 ≤ k_ ∧ k_ < hi4) _ Ao4_0 t2.length co4_0 1 LS4_0 HW8_0.out.now (fun j_ hj_ => Nat.lt_of_lt_of_le hj_.2 HV4_0.out.1) HX8.out.1 HX8.out.2).mono ?_; rintro e w8 ⟨rfl, hm, hw⟩; refine ⟨_, rfl, ?_⟩; have hi_HV4_0 := HV4_0.out.1; have hc8_0 := HW8_0.out.now.cells; have hh_ := WrB.held hw (fun c hc => (hc8_0 c hc).1) (HDHV4_0.out); have HH8 := Aside0.mk (St.of_held (lo := lo4) (hi := hi4) (Nat.le_trans hi_HV4_0 hm.2.1.size) (fun c hc => (hc8_0 c hc).2) hh_); clear hh_; replace HW8_0 := Aside0.mk (St.of_row (Nat.le_trans hi_HV4_0 hm.2.1.size) (RowV.mk hm HW8_0.out.now)); replace HV1_0 := Aside0.mk (HV1_0.out.mark hm (fun k_ hk_ => by have h1_ := hk_.1; have h2_ := hk_.2; have q0_ := HN1.out; have q1_ := HN2.out; have q2_ := HN4.out; have q3_ := HN5.out; have q4_ := HIHV1_0.out; omega)); replace BK2 := Aside0.mk (blk_kept BK2.out hm.1 (fun hk_ => by have h1_ := hk_.1; have h2_ := hk_.2; have q0_ := HN1.out; have q1_ := HN2.out; have q2_ := HN4.out; have q3_ := HN5.out; omega)); replace BK5 := Aside0.mk (blk_kept BK5.out hm.1 (fun hk_ => by have h1_ := hk_.1; have h2_ := hk_.2; have q0_ := HN1.out; have q1_ := HN2.out; have q2_ := HN4.out; have q3_ := HN5.out; omega)); replace HB := Aside0.mk (HB.out.trans (hm.below HB.out.size (fun k_ hk_ => by have h1_ := hk_.1; have q0_ := HN1.out; have q1_ := HN2.out; have q2_ := HN4.out; have q3_ := HN5.out; omega))); have HIHW8_0 : Aside0 (hi4 ≤ hi4) := ⟨Nat.le_refl _⟩; clear hrv8_0 hc8_0; have HIHH8 : Aside0 (hi4 ≤ hi4) := ⟨Nat.le_refl _⟩; clear HV4_0 hi_HV4_0; clear hm hw; have hl8 : decide (1 + (LS4_0.length : Int) < 0) = false := decide_eq_false (by have h1_ := HX8.out; omega); (try clear hz7_2_0); (try clear hf7_2_0); (try clear hz7_5_0); (try clear hf7_5_0); have hz8_2_0 : w8.cell? ⟨gb2, 0, none⟩ = some (.slice Ao1_0 t1.length co1_0) := (blk_cell BK2.out 0).trans rfl; have hf8_2_0 := blk_frozen BK2.out 0; have hz8_5_0 : w8.cell? ⟨gb5, 0, none⟩ = some (.slice Ao4_0 t2.length co4_0) := (blk_cell BK5.out 0).trans rfl; have hf8_5_0 := blk_frozen BK5.out 0) | ((with_reducible refine gate_callee (f := 17) rfl ?_); refine gL_ (some 17) Try.func17 #[.agg #[.slice Ao4_0 t2.length co4_0], .int .i64 1] ?_; refine (hd_heldMemory (fun k_ => lo4 ≤ k_ ∧ k_ < hi4) _ Ao4_0 t2.length co4_0 1 LS4_0 HW8_0.out.now (fun j_ hj_ => Nat.lt_of_lt_of_le hj_.2 HW8_0.out.1) HH8.out.now HX8.out.1 HX8.out.2).mono ?_; rintro e w9 ⟨rfl, hd_⟩; refine ⟨_, rfl, ?_⟩; have hb := hd_; replace HV1_0 := Aside0.mk (HV1_0.out.below hb); replace HW8_0 := Aside0.mk (HW8_0.out.below hb); replace HH8 := Aside0.mk (HH8.out.below hb); replace BK2 := Aside0.mk (blk_below (g := gb2) (o := .cells #[.slice Ao1_0 t1.length co1_0] 24 (0, 0)) BK2.out hb); replace BK5 := Aside0.mk (blk_below (g := gb5) (o := .cells #[.slice Ao4_0 t2.length co4_0] 24 (0, 0)) BK5.out hb); replace HB := Aside0.mk (below_step HB.out hb); clear hd_ hb; have hl9 : decide (1 + (LS4_0.length : Int) < 0) = false := decide_eq_false (by have h1_ := HX8.out; omega); (try clear hz8_2_0); (try clear hf8_2_0); (try clear hz8_5_0); (try clear hf8_5_0); have hz9_2_0 : w9.cell? ⟨gb2, 0, none⟩ = some (.slice Ao1_0 t1.length co1_0) := (blk_cell BK2.out 0).trans rfl; have hf9_2_0 := blk_frozen BK2.out 0; have hz9_5_0 : w9.cell? ⟨gb5, 0, none⟩ = some (.slice Ao4_0 t2.length co4_0) := (blk_cell BK5.out 0).trans rfl; have hf9_5_0 := blk_frozen BK5.out 0) | ((with_reducible refine gate_callee (f := 14) rfl ?_); refine gL_ (some 23) Try.func14 #[] ?_; (with_reducible refine (impl_MemoryNew.calls k t3 _ A10.out).mono ?_); rintro e w10 ⟨vv10_0, rfl, ho0, hb⟩; refine ⟨_, rfl, ?_⟩; obtain ⟨lo10, hi10, hl1, hl2, hl3, hnew, hnewS⟩ := St.newS (gb5 + 1) (blk_lt BK5.out) hb.size; have HN10 : Aside0 (gb5 + 1 ≤ lo10 ∧ lo10 ≤ hi10) := ⟨hl1, hl2⟩; replace HV1_0 := Aside0.mk (HV1_0.out.below hb); replace HW8_0 := Aside0.mk (HW8_0.out.below hb); replace HH8 := Aside0.mk (HH8.out.below hb); replace BK2 := Aside0.mk (blk_below (g := gb2) (o := .cells #[.slice Ao1_0 t1.length co1_0] 24 (0, 0)) BK2.out hb); replace BK5 := Aside0.mk (blk_below (g := gb5) (o := .cells #[.slice Ao4_0 t2.length co4_0] 24 (0, 0)) BK5.out hb); replace HB := Aside0.mk (below_step HB.out hb); obtain ⟨Ao10_0, co10_0, eo⟩ := Kd.R_slice (Kd.S_R ho0); subst eo; obtain ⟨Ax_, cx_, LS10_0, ex_, hrv_, hll_, hnd_, _⟩ := RepN.row (RepN.sslice repN43 43) (hnewS _ _ _ _ _ _ ho0); injection ex_ with ex1_ ex2_ ex3_; subst ex1_; subst ex3_; have HRHV10_0 := Aside0.mk (St.of_row hl3 (RowV.mono (fun _ hk => hk.2) hrv_)); have HLHV10_0 := Aside0.mk hll_; have HDHV10_0 := Aside0.mk hnd_; clear hrv_ hll_ hnd_ ex2_; have HIHRHV10_0 : Aside0 (hi10 ≤ hi10) := ⟨Nat.le_refl _⟩; have HV10_0 := Aside0.mk (hnew _ _ _ _ _ _ (Kd.S_R ho0)); have HIHV10_0 : Aside0 (hi10 ≤ hi10) := ⟨Nat.le_refl _⟩; clear ho0; clear hnew hl1 hl2 hl3 hnewS; clear hb; (try clear hz9_2_0); (try clear hf9_2_0); (try clear hz9_5_0); (try clear hf9_5_0); have hz10_2_0 : w10.cell? ⟨gb2, 0, none⟩ = some (.slice Ao1_0 t1.length co1_0) := (blk_cell BK2.out 0).trans rfl; have hf10_2_0 := blk_frozen BK2.out 0; have hz10_5_0 : w10.cell? ⟨gb5, 0, none⟩ = some (.slice Ao4_0 t2.length co4_0) := (blk_cell BK5.out 0).trans rfl; have hf10_5_0 := blk_frozen BK5.out 0) | ((with_reducible refine gate_dst (N := 5) rfl ?_); refine bX_ 5 (cs := #[.slice none 0 0]) (t := 24) ?_; intro gb11 hg w11 hbox hb; have HN11 : Aside0 (hi10 ≤ gb11) := ⟨by rw [hg]; exact HRHV10_0.out.1⟩; replace HV1_0 := Aside0.mk (HV1_0.out.below hb); replace HW8_0 := Aside0.mk (HW8_0.out.below hb); replace HH8 := Aside0.mk (HH8.out.below hb); replace HRHV10_0 := Aside0.mk (HRHV10_0.out.below hb); replace HV10_0 := Aside0.mk (HV10_0.out.below hb); replace BK2 := Aside0.mk (blk_below (g := gb2) (o := .cells #[.slice Ao1_0 t1.length co1_0] 24 (0, 0)) BK2.out hb); replace BK5 := Aside0.mk (blk_below (g := gb5) (o := .cells #[.slice Ao4_0 t2.length co4_0] 24 (0, 0)) BK5.out hb); replace HB := Aside0.mk (below_step HB.out hb); have BK11 := Aside0.mk hbox; clear hg hbox hb; (try clear hz10_2_0); (try clear hf10_2_0); (try clear hz10_5_0); (try clear hf10_5_0); have hz11_2_0 : w11.cell? ⟨gb2, 0, none⟩ = some (.slice Ao1_0 t1.length co1_0) := (blk_cell BK2.out 0).trans rfl; have hf11_2_0 := blk_frozen BK2.out 0; have hz11_5_0 : w11.cell? ⟨gb5, 0, none⟩ = some (.slice Ao4_0 t2.length co4_0) := (blk_cell BK5.out 0).trans rfl; have hf11_5_0 := blk_frozen BK5.out 0; have hz11_11_0 : w11.cell? ⟨gb11, 0, none⟩ = some (.slice none 0 0) := (blk_cell BK11.out 0).trans rfl; have hf11_11_0 := blk_frozen BK11.out 0; replace HV1_0 := Aside0.mk (HV1_0.out.set (o := 0) (g := gb11) (by have q0_ := HN1.out; have q1_ := HN2.out; have q2_ := HN4.out; have q3_ := HN5.out; have q4_ := HN10.out; have q5_ := HN11.out; have q6_ := HIHV1_0.out; omega) (.slice Ao10_0 t3.length co10_0)); replace HW8_0 := Aside0.mk (HW8_0.out.set (o := 0) (g := gb11) (by have q0_ := HN1.out; have q1_ := HN2.out; have q2_ := HN4.out; have q3_ := HN5.out; have q4_ := HN10.out; have q5_ := HN11.out; have q6_ := HIHW8_0.out; omega) (.slice Ao10_0 t3.length co10_0)); replace HH8 := Aside0.mk (HH8.out.set (o := 0) (g := gb11) (by have q0_ := HN1.out; have q1_ := HN2.out; have q2_ := HN4.out; have q3_ := HN5.out; have q4_ := HN10.out; have q5_ := HN11.out; have q6_ := HIHH8.out; omega) (.slice Ao10_0 t3.length co10_0)); replace HRHV10_0 := Aside0.mk (HRHV10_0.out.set (o := 0) (g := gb11) (by have q0_ := HN1.out; have q1_ := HN2.out; have q2_ := HN4.out; have q3_ := HN5.out; have q4_ := HN10.out; have q5_ := HN11.out; have q6_ := HIHRHV10_0.out; omega) (.slice Ao10_0 t3.length co10_0)); replace HV10_0 := Aside0.mk (HV10_0.out.set (o := 0) (g := gb11) (by have q0_ := HN1.out; have q1_ := HN2.out; have q2_ := HN4.out; have q3_ := HN5.out; have q4_ := HN10.out; have q5_ := HN11.out; have q6_ := HIHV10_0.out; omega) (.slice Ao10_0 t3.length co10_0)); replace BK2 := Aside0.mk (blk_far (p := ⟨gb11, 0, none⟩) BK2.out (by show gb2 ≠ gb11; have q0_ := HN1.out; have q1_ := HN2.out; have q2_ := HN4.out; have q3_ := HN5.out; have q4_ := HN10.out; have q5_ := HN11.out; omega) (.slice Ao10_0 t3.length co10_0)); replace BK5 := Aside0.mk (blk_far (p := ⟨gb11, 0, none⟩) BK5.out (by show gb5 ≠ gb11; have q0_ := HN1.out; have q1_ := HN2.out; have q2_ := HN4.out; have q3_ := HN5.out; have q4_ := HN10.out; have q5_ := HN11.out; omega) (.slice Ao10_0 t3.length co10_0)); replace BK11 := Aside0.mk (show (w11.setCell ⟨gb11, 0, none⟩ (.slice Ao10_0 t3.length co10_0)).heap[gb11]? = some (.cells #[.slice Ao10_0 t3.length co10_0] 24 (0, 0)) from (blk_put (cs := #[.slice none 0 0]) BK11.out 0 (.slice Ao10_0 t3.length co10_0) rfl)); replace HB := Aside0.mk (show Below w.heap.size w (w11.setCell ⟨gb11, 0, none⟩ (.slice Ao10_0 t3.length co10_0)) from (below_set (j := 0) (v := .slice Ao10_0 t3.length co10_0) HB.out (by have q0_ := HN1.out; have q1_ := HN2.out; have q2_ := HN4.out; have q3_ := HN5.out; have q4_ := HN10.out; have q5_ := HN11.out; omega))); have hz12_2_0 : (w11.setCell ⟨gb11, 0, none⟩ (.slice Ao10_0 t3.length co10_0)).cell? ⟨gb2, 0, none⟩ = some (.slice Ao1_0 t1.length co1_0) := (blk_cell BK2.out 0).trans rfl; have hf12_2_0 := blk_frozen BK2.out 0; have hz12_5_0 : (w11.setCell ⟨gb11, 0, none⟩ (.slice Ao10_0 t3.length co10_0)).cell? ⟨gb5, 0, none⟩ = some (.slice Ao4_0 t2.length co4_0) := (blk_cell BK5.out 0).trans rfl; have hf12_5_0 := blk_frozen BK5.out 0; have hz12_11_0 : (w11.setCell ⟨gb11, 0, none⟩ (.slice Ao10_0 t3.length co10_0)).cell? ⟨gb11, 0, none⟩ = some (.slice Ao10_0 t3.length co10_0) := (blk_cell BK11.out 0).trans rfl; have hf12_11_0 := blk_frozen BK11.out 0) | ((with_reducible refine gate_callee (f := 15) rfl ?_); refine gL_ (some 26) Try.func15 #[.agg #[.slice Ao10_0 t3.length co10_0], .agg #[.slice Ao1_0 t1.length co1_0]] ?_; (with_reducible refine (laws_eqMemory.calls k _ _ t3 _ _ t1 true _ ?side1 ?side2 ?side3 ?side4 A13.out).mono ?_); (case side1 => exact HV10_0.out.reads); (case side2 => exact HV10_0.out.room); (case side3 => exact HV1_0.out.reads); (case side4 => exact HV1_0.out.room); rintro e w13 ⟨rfl, hb⟩; refine ⟨_, rfl, ?_⟩; replace HV1_0 := Aside0.mk (HV1_0.out.below hb); replace HW8_0 := Aside0.mk (HW8_0.out.below hb); replace HH8 := Aside0.mk (HH8.out.below hb); replace HRHV10_0 := Aside0.mk (HRHV10_0.out.below hb); replace HV10_0 := Aside0.mk (HV10_0.out.below hb); replace BK2 := Aside0.mk (blk_below (g := gb2) (o := .cells #[.slice Ao1_0 t1.length co1_0] 24 (0, 0)) BK2.out hb); replace BK5 := Aside0.mk (blk_below (g := gb5) (o := .cells #[.slice Ao4_0 t2.length co4_0] 24 (0, 0)) BK5.out hb); replace BK11 := Aside0.mk (blk_below (g := gb11) (o := .cells #[.slice Ao10_0 t3.length co10_0] 24 (0, 0)) BK11.out hb); replace HB := Aside0.mk (below_step HB.out hb); clear hb; (try clear hz11_2_0); (try clear hf11_2_0); (try clear hz11_5_0); (try clear hf11_5_0); (try clear hz11_11_0); (try clear hf11_11_0); (try clear hz12_2_0); (try clear hf12_2_0); (try clear hz12_5_0); (try clear hf12_5_0); (try clear hz12_11_0); (try clear hf12_11_0); have hz13_2_0 : w13.cell? ⟨gb2, 0, none⟩ = some (.slice Ao1_0 t1.length co1_0) := (blk_cell BK2.out 0).trans rfl; have hf13_2_0 := blk_frozen BK2.out 0; have hz13_5_0 : w13.cell? ⟨gb5, 0, none⟩ = some (.slice Ao4_0 t2.length co4_0) := (blk_cell BK5.out 0).trans rfl; have hf13_5_0 := blk_frozen BK5.out 0; have hz13_11_0 : w13.cell? ⟨gb11, 0, none⟩ = some (.slice Ao10_0 t3.length co10_0) := (blk_cell BK11.out 0).trans rfl; have hf13_11_0 := blk_frozen BK11.out 0) | ((with_reducible refine gate_callee (f := 17) rfl ?_); refine gL_ (some 30) Try.func17 #[.agg #[.slice Ao4_0 t2.length co4_0], .int .i64 1] ?_; refine (hd_heldMemory (fun k_ => lo4 ≤ k_ ∧ k_ < hi4) _ Ao4_0 t2.length co4_0 1 LS4_0 HW8_0.out.now (fun j_ hj_ => Nat.lt_of_lt_of_le hj_.2 HW8_0.out.1) HH8.out.now HX8.out.1 HX8.out.2).mono ?_; rintro e w14 ⟨rfl, hd_⟩; refine ⟨_, rfl, ?_⟩; have hb := hd_; replace HV1_0 := Aside0.mk (HV1_0.out.below hb); replace HW8_0 := Aside0.mk (HW8_0.out.below hb); replace HH8 := Aside0.mk (HH8.out.below hb); replace HRHV10_0 := Aside0.mk (HRHV10_0.out.below hb); replace HV10_0 := Aside0.mk (HV10_0.out.below hb); replace BK2 := Aside0.mk (blk_below (g := gb2) (o := .cells #[.slice Ao1_0 t1.length co1_0] 24 (0, 0)) BK2.out hb); replace BK5 := Aside0.mk (blk_below (g := gb5) (o := .cells #[.slice Ao4_0 t2.length co4_0] 24 (0, 0)) BK5.out hb); replace BK11 := Aside0.mk (blk_below (g := gb11) (o := .cells #[.slice Ao10_0 t3.length co10_0] 24 (0, 0)) BK11.out hb); replace HB := Aside0.mk (below_step HB.out hb); clear hd_ hb; have hl14 : decide (1 + (LS4_0.length : Int) < 0) = false := decide_eq_false (by have h1_ := HX8.out; omega); (try clear hz13_2_0); (try clear hf13_2_0); (try clear hz13_5_0); (try clear hf13_5_0); (try clear hz13_11_0); (try clear hf13_11_0); have hz14_2_0 : w14.cell? ⟨gb2, 0, none⟩ = some (.slice Ao1_0 t1.length co1_0) := (blk_cell BK2.out 0).trans rfl; have hf14_2_0 := blk_frozen BK2.out 0; have hz14_5_0 : w14.cell? ⟨gb5, 0, none⟩ = some (.slice Ao4_0 t2.length co4_0) := (blk_cell BK5.out 0).trans rfl; have hf14_5_0 := blk_frozen BK5.out 0; have hz14_11_0 : w14.cell? ⟨gb11, 0, none⟩ = some (.slice Ao10_0 t3.length co10_0) := (blk_cell BK11.out 0).trans rfl; have hf14_11_0 := blk_frozen BK11.out 0))
 go_ret
 exact ⟨rfl, HB.out⟩
set_option maxHeartbeats 16000000 in
set_option maxRecDepth 100000 in
theorem laws_FnExactMemoryNew.calls (k : Nat) (r : Bool) (w : World) (h : laws_FnExactMemoryNew.f k  = some r) (hr : r = true) :
  Calls Try.prog 3 #[] w fun e w' => e = .returned (.bool r) ∧ Below w.heap.size w w' := by
 subst hr
 simp only [laws_FnExactMemoryNew.f] at h
 obtain ⟨t1, A1, h⟩ := Option.bind_eq_some_iff.mp h
 obtain ⟨t2, A4, h⟩ := Option.bind_eq_some_iff.mp h
 obtain ⟨eA7, A7, h⟩ := Option.bind_eq_some_iff.mp h
 by_cases cA7 : eA7 = true
 case neg => rw [if_neg cA7] at h; exact absurd (Option.some.inj h) (by decide)
 rw [if_pos cA7] at h
 subst cA7
 by_cases hwt8 : wsum (wsum wt43) t2 ≤ 1152921504606846976
 case neg => rw [if_neg hwt8] at h; cases h
 rw [if_pos hwt8] at h
 obtain ⟨t3, A10, h⟩ := Option.bind_eq_some_iff.mp h
 obtain ⟨eA13, A13, h⟩ := Option.bind_eq_some_iff.mp h
 by_cases cA13 : eA13 = true
 case neg => rw [if_neg cA13] at h; exact absurd (Option.some.inj h) (by decide)
 rw [if_pos cA13] at h
 subst cA13
 exact FnExactMemoryNew_main k  t1 t2 t3 w  A1 A4 A7 hwt8 A10 A13
end Go.Proofs.Ythbcnakmnbilhaa.PFnExactMemoryNew
namespace Go.Proofs.Ythbcnakmnbilhaa.Lp
open Go.RowKit Go.Proofs.YthbcnakmnbilhaaW.PrintWords
set_option linter.unusedVariables false
set_option linter.unusedSimpArgs false
theorem wrapS {j n : Nat} (h : j < n) (hn : n ≤ 9223372036854775807) : wrap64 ((j : Int) + 1) = ((j + 1 : Nat) : Int) := by
  unfold wrap64; omega
theorem wrap_in {n : Int} (h0 : -9223372036854775808 ≤ n) (h1 : n ≤ 9223372036854775807) : wrap64 n = n := by
  unfold wrap64; omega
theorem rd_get {xs : List Int} {j : Nat} (h : j < xs.length) : rd xs (j : Int) = xs[j] := by simp [rd, List.getD_eq_getElem?_getD, h]
theorem count_up {ρ : Type} {L : Nat → Nat → Option ρ} {R : Nat → ρ} {n : Nat} (hend : Ev (L n) (R n)) (hstep : ∀ j, j < n → Ev (L (j + 1)) (R (j + 1)) → Ev (L j) (R j)) : ∀ j, j ≤ n → Ev (L j) (R j) := by
  have key : ∀ d j, j + d = n → Ev (L j) (R j) := by
    intro d
    induction d with
    | zero => intro j hj; obtain rfl : j = n := by omega
              exact hend
    | succ d ih => intro j hj; exact hstep j (by omega) (ih (j + 1) (by omega))
  exact fun j hj => key (n - j) j (by omega)
theorem Ev.one {α : Type} {g : Nat → Option α} {r : α} (h : ∀ k, g (k + 1) = some r) : Ev g r := ⟨1, fun k hk => by
  obtain ⟨m, rfl⟩ : ∃ m, k = m + 1 := ⟨k - 1, by omega⟩
  exact h m⟩
theorem Ev.all {α : Type} {g : Nat → Option α} {r : α} (h : ∀ k, g k = some r) : Ev g r := ⟨0, fun k _ => h k⟩
def agree {α : Type} [DecidableEq α] (a b : List α) (j : Nat) : Bool := decide (a.drop j = b.drop j)
theorem agree_step {α : Type} [DecidableEq α] {a b : List α} {j : Nat} (ha : j < a.length) (hb : j < b.length) (h : a[j] = b[j]) : agree a b j = agree a b (j + 1) := by
  unfold agree
  have e1 := List.drop_eq_getElem_cons ha
  have e2 := List.drop_eq_getElem_cons hb
  rw [decide_eq_decide, e1, e2, h, List.cons.injEq]
  exact ⟨fun c => c.2, fun c => ⟨rfl, c⟩⟩
theorem agree_no {α : Type} [DecidableEq α] {a b : List α} {j : Nat} (ha : j < a.length) (hb : j < b.length) (h : ¬ a[j] = b[j]) : agree a b j = false := by
  unfold agree
  have e1 := List.drop_eq_getElem_cons ha
  have e2 := List.drop_eq_getElem_cons hb
  rw [decide_eq_false_iff_not, e1, e2]
  intro c
  injection c with c1
  exact h c1
theorem agree_end {α : Type} [DecidableEq α] {a b : List α} (h : a.length = b.length) : agree a b a.length = true := by
  unfold agree
  simp [h]
def total {α : Type} (w : α → Nat) : List α → Nat
  | [] => 0
  | x :: xs => w x + total w xs
theorem total_mem {α : Type} (w : α → Nat) : ∀ {xs : List α} {x : α}, x ∈ xs → w x ≤ total w xs
  | y :: xs, x, h => by
    rcases List.mem_cons.1 h with rfl | h
    · rw [total]; omega
    · have := total_mem w h
      rw [total]; omega
theorem Ev.ite_pos {α : Type} {c : Prop} [Decidable c] {g f : Nat → Option α} {r : α} (h : c) (k : Ev g r) : Ev (fun n => if c then g n else f n) r := by simp only [if_pos h]; exact k
theorem yes_loop {ρ : Type} {L : Nat → Nat → Option ρ} (n : Nat) (r : ρ) (hend : Ev (L n) r) (hstep : ∀ j, j < n → Ev (L (j + 1)) r → Ev (L j) r) : Ev (L 0) r :=
  count_up (R := fun _ => r) hend hstep 0 (Nat.zero_le _)
end Go.Proofs.Ythbcnakmnbilhaa.Lp
namespace Go.Proofs.Ythbcnakmnbilhaa.Pure
open Go.RowKit Go.Proofs.Ythbcnakmnbilhaa Go.Proofs.Ythbcnakmnbilhaa.PFnExactMemoryNew Go.Proofs.YthbcnakmnbilhaaW.PrintWords Go.Proofs.YthbcnakmnbilhaaW.PrintLast Go.Proofs.Ythbcnakmnbilhaa.Lp
set_option linter.unusedVariables false
set_option linter.unusedSimpArgs false
theorem eqIntS_ev (a b : List Int) (h : a.length ≤ 9223372036854775807) : Ev (fun k => laws_eqIntS.f k a b) (decide (a = b)) := by
  by_cases hl : a.length = b.length
  · have key := count_up (L := fun j k => laws_eqIntS.l0 k a b (j : Int)) (R := fun j => agree a b j) (n := a.length)
      (Ev.one fun k => by simp [laws_eqIntS.l0, agree_end hl])
      (fun j hj ih => by
        by_cases e : a[j] = b[j]
        · exact Ev.step (fun k => by
            simp only [laws_eqIntS.l0]
            rw [if_pos (by omega), if_pos (by omega), if_pos (by omega), if_pos (by rw [rd_get hj, rd_get (by omega), e]), wrapS hj (by omega)]) (by rw [agree_step hj (by omega) e]; exact ih)
        · exact Ev.one fun k => by
            simp only [laws_eqIntS.l0]
            rw [if_pos (by omega), if_pos (by omega), if_pos (by omega), if_neg (by rw [rd_get hj, rd_get (by omega)]; exact e), agree_no hj (by omega) e])
    refine Ev.congr (fun k => ?_) (key 0 (Nat.zero_le _))
    unfold laws_eqIntS.f
    rw [if_pos (by omega)]
    rfl
  · refine Ev.all fun k => ?_
    unfold laws_eqIntS.f
    rw [if_neg (by omega), decide_eq_false (fun e => hl (by rw [e]))]
theorem eqIntS_self (a : List Int) (h : a.length ≤ 9223372036854775807) : Ev (fun k => laws_eqIntS.f k a a) true := by
  have := eqIntS_ev a a h
  simpa using this
def wiWrite (x : S43) : Nat := x.f1.length
def wiWriteS (xs : (List S43)) : Nat := (xs.length + total wiWrite xs)
theorem eqWrite_self (a_0 : Int) (a_1 : (List Int)) (h : a_1.length ≤ 1048576) : Ev (fun k => laws_eqWrite.f k a_0 a_1 a_0 a_1) true := by
  simp only [laws_eqWrite.f, eq_self, if_true, bne_self_eq_false, Bool.false_eq_true, if_false]
  refine Ev.bind (eqIntS_self a_1 (by omega)) ?_
  try simp only [eq_self, if_true, bne_self_eq_false, Bool.false_eq_true, if_false]
  exact Ev.now _
theorem eqWriteS_self (xs : (List S43)) (h : (xs.length + total wiWrite xs) ≤ 1048576) : Ev (fun k => laws_eqWriteS.f k xs xs) true := by
  have rd_e : ∀ (j : Nat) (hj : j < xs.length), rd_T43 xs (j : Int) = xs[j] := fun j hj => by simp [rd_T43, List.getD_eq_getElem?_getD, hj]
  have key := yes_loop (L := fun j k => laws_eqWriteS.l0 k xs xs (j : Int)) xs.length true (Ev.one fun k => by simp only [laws_eqWriteS.l0]; rw [if_neg (by omega)])
    (fun j hj ih => by
      refine Ev.step (fun k => by simp only [laws_eqWriteS.l0]; rw [if_pos (by omega), if_pos (by omega), if_pos (by omega), rd_e j hj]) (Ev.bind (eqWrite_self (xs[j].f0) (xs[j].f1) (by have := total_mem wiWrite (List.getElem_mem hj); have h2 : xs[j].f1.length = wiWrite xs[j] := rfl; omega)) ?_)
      refine Ev.ite_pos rfl ?_
      rw [wrapS hj (by omega)]
      exact ih)
  refine Ev.congr (fun k => ?_) key
  unfold laws_eqWriteS.f
  rw [if_pos rfl]
  rfl
theorem eqWriteSS_self (xs : (List (List S43))) (h : (xs.length + total wiWriteS xs) ≤ 1048576) : Ev (fun k => laws_eqWriteSS.f k xs xs) true := by
  have rd_e : ∀ (j : Nat) (hj : j < xs.length), rd_L3 xs (j : Int) = xs[j] := fun j hj => by simp [rd_L3, List.getD_eq_getElem?_getD, hj]
  have key := yes_loop (L := fun j k => laws_eqWriteSS.l0 k xs xs (j : Int)) xs.length true (Ev.one fun k => by simp only [laws_eqWriteSS.l0]; rw [if_neg (by omega)])
    (fun j hj ih => by
      refine Ev.step (fun k => by simp only [laws_eqWriteSS.l0]; rw [if_pos (by omega), if_pos (by omega), if_pos (by omega), rd_e j hj]) (Ev.bind (eqWriteS_self xs[j] (by have := total_mem wiWriteS (List.getElem_mem hj); have h2 : (xs[j].length + total wiWrite xs[j]) = wiWriteS xs[j] := rfl; omega)) ?_)
      refine Ev.ite_pos rfl ?_
      rw [wrapS hj (by omega)]
      exact ih)
  refine Ev.congr (fun k => ?_) key
  unfold laws_eqWriteSS.f
  rw [if_pos rfl]
  rfl
theorem eqMemory_self (a_0 : (List (List S43))) (h : (a_0.length + total wiWriteS a_0) ≤ 1048576) : Ev (fun k => laws_eqMemory.f k a_0 a_0) true := by
  simp only [laws_eqMemory.f, eq_self, if_true, bne_self_eq_false, Bool.false_eq_true, if_false]
  refine Ev.bind (eqWriteSS_self a_0 h) ?_
  try simp only [eq_self, if_true, bne_self_eq_false, Bool.false_eq_true, if_false]
  exact Ev.now _
def cell0 : List S43 := [⟨0, List.replicate 24 0⟩]
def mem0 : List (List S43) := List.replicate 24 cell0
theorem mem0_step {j : Nat} (h : j < 24) : List.replicate j cell0 ++ [cell0] = List.replicate (j + 1) cell0 := List.replicate_succ'.symm
theorem spec_MemoryNew_ev : Ev (fun k => spec_MemoryNew.f k) mem0 := by
  have key := count_up (L := fun j k => spec_MemoryNew.l0 k (j : Int) (List.replicate j cell0)) (R := fun _ => mem0) (n := 24)
    (Ev.one fun k => by
      simp only [spec_MemoryNew.l0]
      rw [if_neg (by omega)]
      rfl)
    (fun j hj ih => Ev.step (fun k => by
      simp only [spec_MemoryNew.l0]
      rw [if_pos (by omega), if_pos (by omega), if_pos (by rw [List.length_replicate]; omega), wrapS (n := 24) (by omega) (by omega)]
      rw [show ([⟨0, List.replicate 24 0⟩] : List S43) = cell0 from rfl, mem0_step hj]) ih)
  exact key 0 (Nat.zero_le _)
theorem impl_MemoryNew_ev : Ev (fun k => impl_MemoryNew.f k) mem0 := by
  have key := count_up (L := fun j k => impl_MemoryNew.l0 k (j : Int) (List.replicate j cell0)) (R := fun _ => mem0) (n := 24)
    (Ev.one fun k => by
      simp only [impl_MemoryNew.l0]
      rw [if_neg (by omega)]
      rfl)
    (fun j hj ih => Ev.step (fun k => by
      simp only [impl_MemoryNew.l0]
      rw [if_pos (by omega), if_pos (by omega), if_pos (by rw [List.length_replicate]; omega), wrapS (n := 24) (by omega) (by omega)]
      rw [show ([⟨0, List.replicate 24 0⟩] : List S43) = cell0 from rfl, mem0_step hj]) ih)
  exact key 0 (Nat.zero_le _)
theorem FnExactMemoryNew   : ∃ k, laws_FnExactMemoryNew.f k  = some true := by
  refine Ev.rounds (g := fun k => laws_FnExactMemoryNew.f k) ?_
  simp only [laws_FnExactMemoryNew.f]
  have he : Ev (fun k => laws_eqMemory.f k mem0 mem0) true := eqMemory_self _ (by decide)
  refine Ev.bind spec_MemoryNew_ev ?_
  refine Ev.bind impl_MemoryNew_ev ?_
  refine Ev.bind he ?_
  refine Ev.ite_pos rfl ?_
  refine Ev.ite_pos (by decide) ?_
  refine Ev.bind impl_MemoryNew_ev ?_
  refine Ev.bind he ?_
  refine Ev.ite_pos rfl ?_
  exact Ev.now _
end Go.Proofs.Ythbcnakmnbilhaa.Pure
namespace Go.Proofs.Ythbcnakmnbilhaa.Rd
open Go.RowKit Go.Proofs.YthbcnakmnbilhaaW.PrintWords Go.ChangeShapes Go.WideShapes
set_option linter.unusedVariables false
def Opens {α : Type} (P : Program) (t : TypeId) (d : Kd α) (ok : α → Prop) : Prop :=
  ∀ (H : Type) (enc : TypeId × Value → H) (w : World) (base : Nat) (spare : Nat → Bool) (held : Bool) (fuel : Nat) (cs : List Value) (x : DataW H × List MemPlace),
    DataW.trod enc P w base spare held fuel t cs = some x → ∃ y, d.K w y cs ∧ ok y
theorem Opens.int {P : Program} {t : TypeId} {k : IntKind} (ht : P.underlying t = some (.int k)) : Opens P t (Kd.int k) (fun n => (Lit.int k n).wf = true) := by
  intro H enc w base spare held fuel cs x h
  obtain ⟨n, rfl, _, hw⟩ := DataW.trod_int ht h
  exact ⟨n, rfl, hw⟩
theorem Opens.bool {P : Program} {t : TypeId} (ht : P.underlying t = some .bool) : Opens P t Kd.bool (fun _ => True) := by
  intro H enc w base spare held fuel cs x h
  obtain ⟨n, rfl, _⟩ := DataW.trod_bool ht h
  exact ⟨n, rfl, trivial⟩
theorem list_of {α : Type} {Q : Nat → α → Prop} : ∀ n : Nat, (∀ i, i < n → ∃ y, Q i y) → ∃ ys : List α, ys.length = n ∧ ∀ i y, ys[i]? = some y → Q i y := by
  intro n
  induction n with
  | zero => exact fun _ => ⟨[], rfl, fun i y h => by simp at h⟩
  | succ n ih =>
    intro h
    obtain ⟨ys, hl, hq⟩ := ih (fun i hi => h i (by omega))
    obtain ⟨y, hy⟩ := h n (by omega)
    refine ⟨ys ++ [y], by simp [hl], fun i z hz => ?_⟩
    rcases Nat.lt_or_ge i ys.length with hi | hi
    · rw [List.getElem?_append_left hi] at hz
      exact hq i z hz
    · rw [List.getElem?_append_right hi] at hz
      have h0 : i - ys.length = 0 := by
        have := (List.getElem?_eq_some_iff.1 hz).1
        simp at this
        omega
      rw [h0] at hz
      simp at hz
      subst hz
      have : i = n := by omega
      rw [this]
      exact hy
theorem Opens.slice {α : Type} {P : Program} {t e : TypeId} (q : Nat) {d : Kd α} {ok : α → Prop} (ht : P.underlying t = some (.slice e)) (hs : P.cellsOf e = d.sz) (he : Opens P e d ok) :
    Opens P t (Kd.slice q d) (fun xs => xs.length ≤ maxLen ∧ ∀ x ∈ xs, ok x) := by
  intro H enc w base spare held fuel cs x h
  rcases DataW.trod_slice ht h with ⟨rfl, _⟩ | ⟨a, len, cap, elems, rest, n, _, rfl, _, _, hl, hm, hlen, hel, _, _⟩
  · exact ⟨[], ⟨none, 0, rfl, Nat.le_refl _, rfl, by simp, fun hp => absurd hp (by simp)⟩, by simp, by simp⟩
  · have each : ∀ i, i < len → ∃ y, ∃ c, w.cells? base (a.add (i * d.sz)) d.sz = some c ∧ d.K w y c ∧ ok y := by
      intro i hi
      have h1 := hel i hi
      rw [List.getElem?_eq_getElem (by omega), Option.bind_eq_some_iff, hs] at h1
      obtain ⟨c, hc, hx⟩ := h1
      obtain ⟨y, hy, ho⟩ := he H enc w base spare held n c _ hx
      exact ⟨y, c, hc, hy, ho⟩
    obtain ⟨ys, hyl, hq⟩ := list_of len each
    have hm' : len ≤ 9223372036854775807 := by unfold maxLen at hm; omega
    refine ⟨ys, ⟨some a, cap, by rw [hyl], by omega, rfl, by omega, fun _ => ⟨a, rfl, fun j p hj => ?_⟩⟩, by omega, fun y hy => ?_⟩
    · obtain ⟨c, hc, hk, _⟩ := hq j p hj
      obtain ⟨_, hcl, hcell⟩ := World.cells?_some hc
      refine ⟨c, hcl, hk, fun i u hu => ?_⟩
      have hi : i < d.sz := by
        have := (List.getElem?_eq_some_iff.1 hu).1
        omega
      rw [← Addr.add_add, hcell i hi, hu]
    · obtain ⟨i, hi⟩ := List.getElem?_of_mem hy
      obtain ⟨c, _, _, ho⟩ := hq i y hi
      exact ho
def OpensAt {α : Type} (P : Program) (fs : List Field) (off : Nat) (d : Kd α) (ok : α → Prop) : Prop :=
  ∀ (H : Type) (enc : TypeId × Value → H) (w : World) (base : Nat) (spare : Nat → Bool) (held : Bool) (n : Nat) (cs : List Value), cs.length = off + d.sz →
    (∀ f ∈ fs, ∃ y, DataW.trod enc P w base spare held n f.type ((cs.drop f.offset).take (P.cellsOf f.type)) = some y) → ∃ y, d.K w y (cs.drop off) ∧ ok y
theorem OpensAt.one {α : Type} {P : Program} {f : Field} {off : Nat} {d : Kd α} {ok : α → Prop} (ho : f.offset = off) (hs : P.cellsOf f.type = d.sz) (h : Opens P f.type d ok) : OpensAt P [f] off d ok := by
  intro H enc w base spare held n cs hl hf
  obtain ⟨x, hx⟩ := hf f (by simp)
  rw [ho, hs, List.take_of_length_le (by simp; omega)] at hx
  exact h _ _ _ _ _ _ _ _ _ hx
theorem OpensAt.cons {α β : Type} {P : Program} {f : Field} {fs : List Field} {off : Nat} {a : Kd α} {b : Kd β} {oka : α → Prop} {okb : β → Prop} (ho : f.offset = off) (hs : P.cellsOf f.type = a.sz) (h : Opens P f.type a oka)
    (hr : OpensAt P fs (off + a.sz) b okb) : OpensAt P (f :: fs) off (Kd.pair a b) (fun x => oka x.1 ∧ okb x.2) := by
  intro H enc w base spare held n cs hl hf
  obtain ⟨x, hx⟩ := hf f (by simp)
  rw [ho, hs] at hx
  obtain ⟨y, hy, oy⟩ := h _ _ _ _ _ _ _ _ _ hx
  have hl' : cs.length = (off + a.sz) + b.sz := by rw [hl]; show off + (a.sz + b.sz) = _; omega
  obtain ⟨z, hz, oz⟩ := hr H enc w base spare held n cs hl' (fun g hg => hf g (by simp [hg]))
  refine ⟨(y, z), ⟨_, _, ?_, hy, hz⟩, oy, oz⟩
  rw [← List.drop_drop]
  exact (List.take_append_drop _ _).symm
theorem Opens.struct {α : Type} {P : Program} {t : TypeId} {fs : List Field} {d : Kd α} {ok : α → Prop} (ht : P.underlying t = some (.struct (List.toArray fs))) (hs : P.cellsOf t = d.sz) (h : OpensAt P fs 0 d ok) : Opens P t d ok := by
  intro H enc w base spare held fuel cs x hx
  obtain ⟨xs, n, _, _, hl, hlen, hf⟩ := DataW.trod_struct ht hx
  obtain ⟨y, hy, oy⟩ := h H enc w base spare held n cs (by omega) (fun f hm => by
    obtain ⟨i, hi⟩ := List.getElem?_of_mem hm
    have hi' : (List.toArray fs)[i]? = some f := by simpa using hi
    have h1 := hf i f hi'
    have hlt : i < xs.length := by
      have := (Array.getElem?_eq_some_iff.1 hi').1
      omega
    rw [List.getElem?_eq_getElem hlt] at h1
    exact ⟨_, h1⟩)
  exact ⟨y, by simpa using hy, oy⟩
theorem Opens.iso {α β : Type} {P : Program} {t : TypeId} {d : Kd α} {ok : α → Prop} (f : β → α) (g : α → β) (hg : ∀ x, f (g x) = x) (h : Opens P t d ok) : Opens P t (Kd.iso d f) (fun y => ok (f y)) := by
  intro H enc w base spare held fuel cs x hx
  obtain ⟨y, hy, o⟩ := h H enc w base spare held fuel cs x hx
  refine ⟨g y, ?_, ?_⟩
  · show d.K w (f (g y)) cs
    rw [hg]
    exact hy
  · show ok (f (g y))
    rw [hg]
    exact o
end Go.Proofs.Ythbcnakmnbilhaa.Rd
