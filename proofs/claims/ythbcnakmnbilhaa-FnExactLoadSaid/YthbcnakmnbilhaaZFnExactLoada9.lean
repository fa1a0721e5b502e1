/- A part of the proof that the law FnExactLoad holds for every input: the words, functions and walks that its row needs, without a condition of their own. -/
import Derived.Test.YthbcnakmnbilhaaZFnExactLoada0
import Derived.Test.YthbcnakmnbilhaaZFnExactLoada2
import Derived.Test.YthbcnakmnbilhaaZFnExactLoada3
import Derived.Test.YthbcnakmnbilhaaZFnExactLoada5
import Derived.Test.YthbcnakmnbilhaaZFnExactLoada7
import Derived.Test.YthbcnakmnbilhaaZFnExactLoada8
import Derived.Test.YthbcnakmnbilhaaZFnExactLoads
namespace Go.Proofs.Ythbcnakmnbilhaa.PFnExactLoad
open Go.RowKit Go.Proofs.YthbcnakmnbilhaaW.PrintWords Go.Proofs.YthbcnakmnbilhaaW.PrintLast Go.Proofs.YthbcnakmnbilhaaW.PrintMore Go.Proofs.Ythbcnakmnbilhaa.Marks Go.Proofs.Ythbcnakmnbilhaa.LawKit
set_option linter.unusedVariables false
set_option linter.unusedSimpArgs false
attribute [local go_sem] max2_int min2_int max_two min_two max_three min_three max_four min_four
theorem rep43 : Rep k43 (.pair .int (.sl .int)) wt43 := Rep.iso (Rep.pair Rep.int (Rep.slice Rep.int 3)) _
set_option maxHeartbeats 16000000 in
set_option maxRecDepth 100000 in
theorem FnExactLoad_exit0 (k : Nat) (A0_0 : Option Addr) (c0_0 : Nat) (l0_0 : List (List (S139))) (A1 : Option Addr) (c1 : Nat) (l1 : List Int) (a2 : Int) (a3 : Int) (a4 : Bool) (w : World) (hr0_0 : Kd.C (Kd.slice 139 k139) w A0_0 l0_0.length l0_0) (hc0_0 : l0_0.length ≤ c0_0) (hr1 : Kd.C (Kd.int .i64) w A1 l1.length l1) (hc1 : l1.length ≤ c1) (hq0 : ((l1.length : Int) > 1048576)) :
  Calls Try.prog 6 #[.agg #[.slice A0_0 l0_0.length c0_0], .slice A1 l1.length c1, .int .i64 a2, .int .i64 a3, .bool a4] w fun e w' => e = .returned (.bool true) ∧ Below w.heap.size w w' := by
 have HR0_0 := Aside0.mk hr0_0
 have HC0_0 := Aside0.mk hc0_0
 clear hr0_0 hc0_0
 have HR1 := Aside0.mk hr1
 have HC1 := Aside0.mk hc1
 clear hr1 hc1
 have hq0b : decide (1048576 < (l1.length : Int)) = true := decide_eq_true hq0
 have hq0c : decide (1048576 < l1.length) = true := decide_eq_true (by omega)
 have hu47 := Try.underlying47
 have HB := Aside0.mk (Below.refl w.heap.size w)
 go_enter Try.func6, Try.ntmps6
 go_wp2_with (first | ((with_reducible refine gate_dst (N := 5) rfl ?_); refine bX_ 5 (cs := #[.slice A0_0 l0_0.length c0_0]) (t := 47) ?_; intro gb1 hg w1 hbox hb; have HN1 : Aside0 (w.heap.size ≤ gb1) := ⟨by rw [hg]; exact HB.out.size⟩; replace HB := Aside0.mk (below_step HB.out hb); have BK1 := Aside0.mk hbox; clear hg hbox hb; have hz1_1_0 : w1.cell? ⟨gb1, 0, none⟩ = some (.slice A0_0 l0_0.length c0_0) := (blk_cell BK1.out 0).trans rfl; have hf1_1_0 := blk_frozen BK1.out 0))
 go_ret
 exact ⟨rfl, HB.out⟩
set_option maxHeartbeats 16000000 in
set_option maxRecDepth 100000 in
theorem FnExactLoad_exit1 (k : Nat) (A0_0 : Option Addr) (c0_0 : Nat) (l0_0 : List (List (S139))) (A1 : Option Addr) (c1 : Nat) (l1 : List Int) (a2 : Int) (a3 : Int) (a4 : Bool) (t1 : Int) (w : World) (hr0_0 : Kd.C (Kd.slice 139 k139) w A0_0 l0_0.length l0_0) (hc0_0 : l0_0.length ≤ c0_0) (hr1 : Kd.C (Kd.int .i64) w A1 l1.length l1) (hc1 : l1.length ≤ c1) (hq0 : ¬ ((l1.length : Int) > 1048576)) (pA2 : laws_szMemory.f k l0_0 1048576 = some t1) (hq1 : (t1 < 0)) :
  Calls Try.prog 6 #[.agg #[.slice A0_0 l0_0.length c0_0], .slice A1 l1.length c1, .int .i64 a2, .int .i64 a3, .bool a4] w fun e w' => e = .returned (.bool true) ∧ Below w.heap.size w w' := by
 have HR0_0 := Aside0.mk hr0_0
 have HC0_0 := Aside0.mk hc0_0
 clear hr0_0 hc0_0
 have HR1 := Aside0.mk hr1
 have HC1 := Aside0.mk hc1
 clear hr1 hc1
 have A2 := Aside0.mk pA2
 clear pA2
 have hq0b : decide (1048576 < (l1.length : Int)) = false := decide_eq_false hq0
 have hq0c : decide (1048576 < l1.length) = false := decide_eq_false (by omega)
 have hq1b : decide (t1 < 0) = true := decide_eq_true hq1
 have hu47 := Try.underlying47
 have HB := Aside0.mk (Below.refl w.heap.size w)
 go_enter Try.func6, Try.ntmps6
 go_wp2_with (first | ((with_reducible refine gate_dst (N := 5) rfl ?_); refine bX_ 5 (cs := #[.slice A0_0 l0_0.length c0_0]) (t := 47) ?_; intro gb1 hg w1 hbox hb; have HN1 : Aside0 (w.heap.size ≤ gb1) := ⟨by rw [hg]; exact HB.out.size⟩; replace HB := Aside0.mk (below_step HB.out hb); have BK1 := Aside0.mk hbox; clear hg hbox hb; have hz1_1_0 : w1.cell? ⟨gb1, 0, none⟩ = some (.slice A0_0 l0_0.length c0_0) := (blk_cell BK1.out 0).trans rfl; have hf1_1_0 := blk_frozen BK1.out 0) | ((with_reducible refine gate_callee (f := 30) rfl ?_); refine gL_ (some 28) Try.func30 #[.agg #[.slice A0_0 l0_0.length c0_0], .int .i64 1048576] ?_; (with_reducible refine (laws_szMemory.calls k _ _ l0_0 1048576 t1 _ ?side1 ?side2 A2.out).mono ?_); (case side1 => exact Kd.C_below HR0_0.out HB.out); (case side2 => exact HC0_0.out); rintro e w2 ⟨rfl, hb⟩; refine ⟨_, rfl, ?_⟩; replace BK1 := Aside0.mk (blk_below (g := gb1) (o := .cells #[.slice A0_0 l0_0.length c0_0] 47 (0, 0)) BK1.out hb); replace HB := Aside0.mk (below_step HB.out hb); clear hb; (try clear hz1_1_0); (try clear hf1_1_0); have hz2_1_0 : w2.cell? ⟨gb1, 0, none⟩ = some (.slice A0_0 l0_0.length c0_0) := (blk_cell BK1.out 0).trans rfl; have hf2_1_0 := blk_frozen BK1.out 0))
 go_ret
 exact ⟨rfl, HB.out⟩
set_option maxHeartbeats 16000000 in
set_option maxRecDepth 100000 in
theorem FnExactLoad_main (k : Nat) (A0_0 : Option Addr) (c0_0 : Nat) (l0_0 : List (List (S139))) (A1 : Option Addr) (c1 : Nat) (l1 : List Int) (a2 : Int) (a3 : Int) (a4 : Bool) (t1 : Int) (t2 : List (List (S43))) (t3 : List Int) (t4 : Int) (t5 : List Int) (t6 : List (List (S43))) (t7 : List Int) (t9 : List Int) (t10 : List (List (S43))) (t11 : List Int) (t12 : List (List (S43))) (t13 : List Int) (t15 : List Int) (w : World) (hr0_0 : Kd.C (Kd.slice 139 k139) w A0_0 l0_0.length l0_0) (hc0_0 : l0_0.length ≤ c0_0) (hr1 : Kd.C (Kd.int .i64) w A1 l1.length l1) (hc1 : l1.length ≤ c1) (hq0 : ¬ ((l1.length : Int) > 1048576)) (pA2 : laws_szMemory.f k l0_0 1048576 = some t1) (hq1 : ¬ (t1 < 0)) (pA3 : laws_toMemory.f k l0_0 = some t2) (pA4 : laws_toIntS.f k l1 = some t3) (pA5 : spec_Load.f k t2 t3 a2 a3 a4 = some (t4, t5)) (pA6 : laws_toMemory.f k l0_0 = some t6) (pA9 : laws_toIntS.f k l1 = some t7) (pA10 : impl_Load.f k t6 t7 a2 a3 a4 = some (t4, t9)) (pA11 : laws_eqIntS.f k t9 t5 = some true) (pA13 : laws_toMemory.f k l0_0 = some t10) (pA14 : laws_eqMemory.f k t6 t10 = some true) (pA15 : laws_toIntS.f k l1 = some t11) (pA16 : laws_eqIntS.f k t7 t11 = some true) (hwt17 : wsum (wsum wt43) t6 ≤ 1152921504606846976) (hwt18 : wsum (fun _ => 1) t7 ≤ 1152921504606846976) (pA19 : laws_eqIntS.f k t9 t5 = some true) (hwt20 : wsum (fun _ => 1) t9 ≤ 1152921504606846976) (pA22 : laws_toMemory.f k l0_0 = some t12) (pA23 : laws_toIntS.f k l1 = some t13) (pA24 : impl_Load.f k t12 t13 a2 a3 a4 = some (t4, t15)) (pA25 : laws_eqIntS.f k t15 t5 = some true) :
  Calls Try.prog 6 #[.agg #[.slice A0_0 l0_0.length c0_0], .slice A1 l1.length c1, .int .i64 a2, .int .i64 a3, .bool a4] w fun e w' => e = .returned (.bool true) ∧ Below w.heap.size w w' := by
 have HR0_0 := Aside0.mk hr0_0
 have HC0_0 := Aside0.mk hc0_0
 clear hr0_0 hc0_0
 have HR1 := Aside0.mk hr1
 have HC1 := Aside0.mk hc1
 clear hr1 hc1
 have A2 := Aside0.mk pA2
 clear pA2
 have A3 := Aside0.mk pA3
 clear pA3
 have A4 := Aside0.mk pA4
 clear pA4
 have A5 := Aside0.mk pA5
 clear pA5
 have A6 := Aside0.mk pA6
 clear pA6
 have A9 := Aside0.mk pA9
 clear pA9
 have A10 := Aside0.mk pA10
 clear pA10
 have A11 := Aside0.mk pA11
 clear pA11
 have A13 := Aside0.mk pA13
 clear pA13
 have A14 := Aside0.mk pA14
 clear pA14
 have A15 := Aside0.mk pA15
 clear pA15
 have A16 := Aside0.mk pA16
 clear pA16
 have A19 := Aside0.mk pA19
 clear pA19
 have A22 := Aside0.mk pA22
 clear pA22
 have A23 := Aside0.mk pA23
 clear pA23
 have A24 := Aside0.mk pA24
 clear pA24
 have A25 := Aside0.mk pA25
 clear pA25
 have hq0b : decide (1048576 < (l1.length : Int)) = false := decide_eq_false hq0
 have hq0c : decide (1048576 < l1.length) = false := decide_eq_false (by omega)
 have hq1b : decide (t1 < 0) = false := decide_eq_false hq1
 have hu24 := Try.underlying24
 have hu47 := Try.underlying47
 have HB := Aside0.mk (Below.refl w.heap.size w)
 go_enter Try.func6, Try.ntmps6
 go_wp2_with (first | ((with_reducible refine gate_dst (N := 5) rfl ?_); refine bX_ 5 (cs := #[.slice A0_0 l0_0.length c0_0]) (t := 47) ?_; intro gb1 hg w1 hbox hb; have HN1 : Aside0 (w.heap.size ≤ gb1) := ⟨by rw [hg]; exact HB.out.size⟩; replace HB := Aside0.mk (below_step HB.out hb); have BK1 := Aside0.mk hbox; clear hg hbox hb; have hz1_1_0 : w1.cell? ⟨gb1, 0, none⟩ = some (.slice A0_0 l0_0.length c0_0) := (blk_cell BK1.out 0).trans rfl; have hf1_1_0 := blk_frozen BK1.out 0) | ((with_reducible refine gate_callee (f := 30) rfl ?_); refine gL_ (some 28) Try.func30 #[.agg #[.slice A0_0 l0_0.length c0_0], .int .i64 1048576] ?_; (with_reducible refine (laws_szMemory.calls k _ _ l0_0 1048576 t1 _ ?side1 ?side2 A2.out).mono ?_); (case side1 => exact Kd.C_below HR0_0.out HB.out); (case side2 => exact HC0_0.out); rintro e w2 ⟨rfl, hb⟩; refine ⟨_, rfl, ?_⟩; replace BK1 := Aside0.mk (blk_below (g := gb1) (o := .cells #[.slice A0_0 l0_0.length c0_0] 47 (0, 0)) BK1.out hb); replace HB := Aside0.mk (below_step HB.out hb); clear hb; (try clear hz1_1_0); (try clear hf1_1_0); have hz2_1_0 : w2.cell? ⟨gb1, 0, none⟩ = some (.slice A0_0 l0_0.length c0_0) := (blk_cell BK1.out 0).trans rfl; have hf2_1_0 := blk_frozen BK1.out 0) | ((with_reducible refine gate_callee (f := 31) rfl ?_); refine gL_ (some 33) Try.func31 #[.agg #[.slice A0_0 l0_0.length c0_0]] ?_; (with_reducible refine (laws_toMemory.calls k _ _ l0_0 t2 _ ?side1 ?side2 A3.out).mono ?_); (case side1 => exact Kd.C_below HR0_0.out HB.out); (case side2 => exact HC0_0.out); rintro e w3 ⟨vv3_0, rfl, ho0, hb⟩; refine ⟨_, rfl, ?_⟩; obtain ⟨lo3, hi3, hl1, hl2, hl3, hnew⟩ := St.new (gb1 + 1) (blk_lt BK1.out) hb.size; have HN3 : Aside0 (gb1 + 1 ≤ lo3 ∧ lo3 ≤ hi3) := ⟨hl1, hl2⟩; replace BK1 := Aside0.mk (blk_below (g := gb1) (o := .cells #[.slice A0_0 l0_0.length c0_0] 47 (0, 0)) BK1.out hb); replace HB := Aside0.mk (below_step HB.out hb); obtain ⟨Ao3_0, co3_0, eo⟩ := Kd.R_slice ho0; subst eo; have HV3_0 := Aside0.mk (hnew _ _ _ _ _ _ ho0); have HIHV3_0 : Aside0 (hi3 ≤ hi3) := ⟨Nat.le_refl _⟩; clear ho0; clear hnew hl1 hl2 hl3; clear hb; (try clear hz2_1_0); (try clear hf2_1_0); have hz3_1_0 : w3.cell? ⟨gb1, 0, none⟩ = some (.slice A0_0 l0_0.length c0_0) := (blk_cell BK1.out 0).trans rfl; have hf3_1_0 := blk_frozen BK1.out 0) | ((with_reducible refine gate_callee (f := 32) rfl ?_); refine gL_ (some 35) Try.func32 #[.slice A1 l1.length c1] ?_; (with_reducible refine (laws_toIntS.calls k _ _ l1 t3 _ ?side1 ?side2 A4.out).mono ?_); (case side1 => exact Kd.C_below HR1.out HB.out); (case side2 => exact HC1.out); rintro e w4 ⟨vv4_0, rfl, ho0, hb⟩; refine ⟨_, rfl, ?_⟩; obtain ⟨lo4, hi4, hl1, hl2, hl3, hnew⟩ := St.new (hi3) HV3_0.out.1 hb.size; have HN4 : Aside0 (hi3 ≤ lo4 ∧ lo4 ≤ hi4) := ⟨hl1, hl2⟩; replace HV3_0 := Aside0.mk (HV3_0.out.below hb); replace BK1 := Aside0.mk (blk_below (g := gb1) (o := .cells #[.slice A0_0 l0_0.length c0_0] 47 (0, 0)) BK1.out hb); replace HB := Aside0.mk (below_step HB.out hb); obtain ⟨Ao4_0, co4_0, eo⟩ := Kd.R_slice ho0; subst eo; have HV4_0 := Aside0.mk (hnew _ _ _ _ _ _ ho0); have HIHV4_0 : Aside0 (hi4 ≤ hi4) := ⟨Nat.le_refl _⟩; clear ho0; clear hnew hl1 hl2 hl3; clear hb; (try clear hz3_1_0); (try clear hf3_1_0); have hz4_1_0 : w4.cell? ⟨gb1, 0, none⟩ = some (.slice A0_0 l0_0.length c0_0) := (blk_cell BK1.out 0).trans rfl; have hf4_1_0 := blk_frozen BK1.out 0) | ((with_reducible refine gate_callee (f := 22) rfl ?_); refine gL_ (some 39) Try.func22 #[.agg #[.slice Ao3_0 t2.length co3_0], .slice Ao4_0 t3.length co4_0, .int .i64 a2, .int .i64 a3, .bool a4] ?_; (with_reducible refine (spec_Load.calls k _ _ t2 _ _ t3 a2 a3 a4 t4 t5 _ ?side1 ?side2 ?side3 ?side4 A5.out).mono ?_); (case side1 => exact HV3_0.out.reads); (case side2 => exact HV3_0.out.room); (case side3 => exact HV4_0.out.reads); (case side4 => exact HV4_0.out.room); rintro e w5 ⟨vv5_1, rfl, ho0, hb⟩; refine ⟨_, rfl, ?_⟩; obtain ⟨lo5, hi5, hl1, hl2, hl3, hnew⟩ := St.new (hi4) HV4_0.out.1 hb.size; have HN5 : Aside0 (hi4 ≤ lo5 ∧ lo5 ≤ hi5) := ⟨hl1, hl2⟩; replace HV3_0 := Aside0.mk (HV3_0.out.below hb); replace HV4_0 := Aside0.mk (HV4_0.out.below hb); replace BK1 := Aside0.mk (blk_below (g := gb1) (o := .cells #[.slice A0_0 l0_0.length c0_0] 47 (0, 0)) BK1.out hb); replace HB := Aside0.mk (below_step HB.out hb); obtain ⟨Ao5_0, co5_0, eo⟩ := Kd.R_slice ho0; subst eo; have HV5_0 := Aside0.mk (hnew _ _ _ _ _ _ ho0); have HIHV5_0 : Aside0 (hi5 ≤ hi5) := ⟨Nat.le_refl _⟩; clear ho0; clear hnew hl1 hl2 hl3; clear hb; (try clear hz4_1_0); (try clear hf4_1_0); have hz5_1_0 : w5.cell? ⟨gb1, 0, none⟩ = some (.slice A0_0 l0_0.length c0_0) := (blk_cell BK1.out 0).trans rfl; have hf5_1_0 := blk_frozen BK1.out 0) | ((with_reducible refine gate_callee (f := 31) rfl ?_); refine gL_ (some 43) Try.func31 #[.agg #[.slice A0_0 l0_0.length c0_0]] ?_; (with_reducible refine (laws_toMemory.calls k _ _ l0_0 t6 _ ?side1 ?side2 A6.out).mono ?_); (case side1 => exact Kd.C_below HR0_0.out HB.out); (case side2 => exact HC0_0.out); rintro e w6 ⟨vv6_0, rfl, ho0, hb⟩; refine ⟨_, rfl, ?_⟩; obtain ⟨lo6, hi6, hl1, hl2, hl3, hnew⟩ := St.new (hi5) HV5_0.out.1 hb.size; have HN6 : Aside0 (hi5 ≤ lo6 ∧ lo6 ≤ hi6) := ⟨hl1, hl2⟩; replace HV3_0 := Aside0.mk (HV3_0.out.below hb); replace HV4_0 := Aside0.mk (HV4_0.out.below hb); replace HV5_0 := Aside0.mk (HV5_0.out.below hb); replace BK1 := Aside0.mk (blk_below (g := gb1) (o := .cells #[.slice A0_0 l0_0.length c0_0] 47 (0, 0)) BK1.out hb); replace HB := Aside0.mk (below_step HB.out hb); obtain ⟨Ao6_0, co6_0, eo⟩ := Kd.R_slice ho0; subst eo; have HV6_0 := Aside0.mk (hnew _ _ _ _ _ _ ho0); have HIHV6_0 : Aside0 (hi6 ≤ hi6) := ⟨Nat.le_refl _⟩; clear ho0; clear hnew hl1 hl2 hl3; clear hb; (try clear hz5_1_0); (try clear hf5_1_0); have hz6_1_0 : w6.cell? ⟨gb1, 0, none⟩ = some (.slice A0_0 l0_0.length c0_0) := (blk_cell BK1.out 0).trans rfl; have hf6_1_0 := blk_frozen BK1.out 0) | ((with_reducible refine gate_dst (N := 14) rfl ?_); refine bX_ 14 (cs := #[.slice none 0 0]) (t := 24) ?_; intro gb7 hg w7 hbox hb; have HN7 : Aside0 (hi6 ≤ gb7) := ⟨by rw [hg]; exact HV6_0.out.1⟩; replace HV3_0 := Aside0.mk (HV3_0.out.below hb); replace HV4_0 := Aside0.mk (HV4_0.out.below hb); replace HV5_0 := Aside0.mk (HV5_0.out.below hb); replace HV6_0 := Aside0.mk (HV6_0.out.below hb); replace BK1 := Aside0.mk (blk_below (g := gb1) (o := .cells #[.slice A0_0 l0_0.length c0_0] 47 (0, 0)) BK1.out hb); replace HB := Aside0.mk (below_step HB.out hb); have BK7 := Aside0.mk hbox; clear hg hbox hb; (try clear hz6_1_0); (try clear hf6_1_0); have hz7_1_0 : w7.cell? ⟨gb1, 0, none⟩ = some (.slice A0_0 l0_0.length c0_0) := (blk_cell BK1.out 0).trans rfl; have hf7_1_0 := blk_frozen BK1.out 0; have hz7_7_0 : w7.cell? ⟨gb7, 0, none⟩ = some (.slice none 0 0) := (blk_cell BK7.out 0).trans rfl; have hf7_7_0 := blk_frozen BK7.out 0; replace HV3_0 := Aside0.mk (HV3_0.out.set (o := 0) (g := gb7) (by have q0_ := HN1.out; have q1_ := HN3.out; have q2_ := HN4.out; have q3_ := HN5.out; have q4_ := HN6.out; have q5_ := HN7.out; have q6_ := HIHV3_0.out; omega) (.slice Ao6_0 t6.length co6_0)); replace HV4_0 := Aside0.mk (HV4_0.out.set (o := 0) (g := gb7) (by have q0_ := HN1.out; have q1_ := HN3.out; have q2_ := HN4.out; have q3_ := HN5.out; have q4_ := HN6.out; have q5_ := HN7.out; have q6_ := HIHV4_0.out; omega) (.slice Ao6_0 t6.length co6_0)); replace HV5_0 := Aside0.mk (HV5_0.out.set (o := 0) (g := gb7) (by have q0_ := HN1.out; have q1_ := HN3.out; have q2_ := HN4.out; have q3_ := HN5.out; have q4_ := HN6.out; have q5_ := HN7.out; have q6_ := HIHV5_0.out; omega) (.slice Ao6_0 t6.length co6_0)); replace HV6_0 := Aside0.mk (HV6_0.out.set (o := 0) (g := gb7) (by have q0_ := HN1.out; have q1_ := HN3.out; have q2_ := HN4.out; have q3_ := HN5.out; have q4_ := HN6.out; have q5_ := HN7.out; have q6_ := HIHV6_0.out; omega) (.slice Ao6_0 t6.length co6_0)); replace BK1 := Aside0.mk (blk_far (p := ⟨gb7, 0, none⟩) BK1.out (by show gb1 ≠ gb7; have q0_ := HN1.out; have q1_ := HN3.out; have q2_ := HN4.out; have q3_ := HN5.out; have q4_ := HN6.out; have q5_ := HN7.out; omega) (.slice Ao6_0 t6.length co6_0)); replace BK7 := Aside0.mk (show (w7.setCell ⟨gb7, 0, none⟩ (.slice Ao6_0 t6.length co6_0)).heap[gb7]? = some (.cells #[.slice Ao6_0 t6.length co6_0] 24 (0, 0)) from (blk_put (cs := #[.slice none 0 0]) BK7.out 0 (.slice Ao6_0 t6.length co6_0) rfl)); replace HB := Aside0.mk (show Below w.heap.size w (w7.setCell ⟨gb7, 0, none⟩ (.slice Ao6_0 t6.length co6_0)) from (below_set (j := 0) (v := .slice Ao6_0 t6.length co6_0) HB.out (by have q0_ := HN1.out; have q1_ := HN3.out; have q2_ := HN4.out; have q3_ := HN5.out; have q4_ := HN6.out; have q5_ := HN7.out; omega))); have hz8_1_0 : (w7.setCell ⟨gb7, 0, none⟩ (.slice Ao6_0 t6.length co6_0)).cell? ⟨gb1, 0, none⟩ = some (.slice A0_0 l0_0.length c0_0) := (blk_cell BK1.out 0).trans rfl; have hf8_1_0 := blk_frozen BK1.out 0; have hz8_7_0 : (w7.setCell ⟨gb7, 0, none⟩ (.slice Ao6_0 t6.length co6_0)).cell? ⟨gb7, 0, none⟩ = some (.slice Ao6_0 t6.length co6_0) := (blk_cell BK7.out 0).trans rfl; have hf8_7_0 := blk_frozen BK7.out 0) | ((with_reducible refine gate_callee (f := 32) rfl ?_); refine gL_ (some 45) Try.func32 #[.slice A1 l1.length c1] ?_; (with_reducible refine (laws_toIntS.calls k _ _ l1 t7 _ ?side1 ?side2 A9.out).mono ?_); (case side1 => exact Kd.C_below HR1.out HB.out); (case side2 => exact HC1.out); rintro e w9 ⟨vv9_0, rfl, ho0, hb⟩; refine ⟨_, rfl, ?_⟩; obtain ⟨lo9, hi9, hl1, hl2, hl3, hnew⟩ := St.new (gb7 + 1) (blk_lt BK7.out) hb.size; have HN9 : Aside0 (gb7 + 1 ≤ lo9 ∧ lo9 ≤ hi9) := ⟨hl1, hl2⟩; replace HV3_0 := Aside0.mk (HV3_0.out.below hb); replace HV4_0 := Aside0.mk (HV4_0.out.below hb); replace HV5_0 := Aside0.mk (HV5_0.out.below hb); replace HV6_0 := Aside0.mk (HV6_0.out.below hb); replace BK1 := Aside0.mk (blk_below (g := gb1) (o := .cells #[.slice A0_0 l0_0.length c0_0] 47 (0, 0)) BK1.out hb); replace BK7 := Aside0.mk (blk_below (g := gb7) (o := .cells #[.slice Ao6_0 t6.length co6_0] 24 (0, 0)) BK7.out hb); replace HB := Aside0.mk (below_step HB.out hb); obtain ⟨Ao9_0, co9_0, eo⟩ := Kd.R_slice ho0; subst eo; have HV9_0 := Aside0.mk (hnew _ _ _ _ _ _ ho0); have HIHV9_0 : Aside0 (hi9 ≤ hi9) := ⟨Nat.le_refl _⟩; clear ho0; clear hnew hl1 hl2 hl3; clear hb; (try clear hz7_1_0); (try clear hf7_1_0); (try clear hz7_7_0); (try clear hf7_7_0); (try clear hz8_1_0); (try clear hf8_1_0); (try clear hz8_7_0); (try clear hf8_7_0); have hz9_1_0 : w9.cell? ⟨gb1, 0, none⟩ = some (.slice A0_0 l0_0.length c0_0) := (blk_cell BK1.out 0).trans rfl; have hf9_1_0 := blk_frozen BK1.out 0; have hz9_7_0 : w9.cell? ⟨gb7, 0, none⟩ = some (.slice Ao6_0 t6.length co6_0) := (blk_cell BK7.out 0).trans rfl; have hf9_7_0 := blk_frozen BK7.out 0) | ((with_reducible refine gate_callee (f := 21) rfl ?_); refine gL_ (some 52) Try.func21 #[.agg #[.slice Ao6_0 t6.length co6_0], .slice Ao9_0 t7.length co9_0, .int .i64 a2, .int .i64 a3, .bool a4] ?_; (with_reducible refine (impl_Load.calls k _ _ t6 _ _ t7 a2 a3 a4 t4 t9 _ ?side1 ?side2 ?side3 ?side4 A10.out).mono ?_); (case side1 => exact HV6_0.out.reads); (case side2 => exact HV6_0.out.room); (case side3 => exact HV9_0.out.reads); (case side4 => exact HV9_0.out.room); rintro e w10 ⟨vv10_1, rfl, ho0, hb⟩; refine ⟨_, rfl, ?_⟩; obtain ⟨lo10, hi10, hl1, hl2, hl3, hnew⟩ := St.new (hi9) HV9_0.out.1 hb.size; have HN10 : Aside0 (hi9 ≤ lo10 ∧ lo10 ≤ hi10) := ⟨hl1, hl2⟩; replace HV3_0 := Aside0.mk (HV3_0.out.below hb); replace HV4_0 := Aside0.mk (HV4_0.out.below hb); replace HV5_0 := Aside0.mk (HV5_0.out.below hb); replace HV6_0 := Aside0.mk (HV6_0.out.below hb); replace HV9_0 := Aside0.mk (HV9_0.out.below hb); replace BK1 := Aside0.mk (blk_below (g := gb1) (o := .cells #[.slice A0_0 l0_0.length c0_0] 47 (0, 0)) BK1.out hb); replace BK7 := Aside0.mk (blk_below (g := gb7) (o := .cells #[.slice Ao6_0 t6.length co6_0] 24 (0, 0)) BK7.out hb); replace HB := Aside0.mk (below_step HB.out hb); obtain ⟨Ao10_0, co10_0, eo⟩ := Kd.R_slice ho0; subst eo; have HV10_0 := Aside0.mk (hnew _ _ _ _ _ _ ho0); have HIHV10_0 : Aside0 (hi10 ≤ hi10) := ⟨Nat.le_refl _⟩; clear ho0; clear hnew hl1 hl2 hl3; clear hb; (try clear hz9_1_0); (try clear hf9_1_0); (try clear hz9_7_0); (try clear hf9_7_0); have hz10_1_0 : w10.cell? ⟨gb1, 0, none⟩ = some (.slice A0_0 l0_0.length c0_0) := (blk_cell BK1.out 0).trans rfl; have hf10_1_0 := blk_frozen BK1.out 0; have hz10_7_0 : w10.cell? ⟨gb7, 0, none⟩ = some (.slice Ao6_0 t6.length co6_0) := (blk_cell BK7.out 0).trans rfl; have hf10_7_0 := blk_frozen BK7.out 0) | (go_at_call 33; (with_reducible refine (laws_eqIntS.calls k _ _ t9 _ _ t5 true _ ?side1 ?side2 ?side3 ?side4 A11.out).mono ?_); (case side1 => exact HV10_0.out.reads); (case side2 => exact HV10_0.out.room); (case side3 => exact HV5_0.out.reads); (case side4 => exact HV5_0.out.room); rintro e w11 ⟨rfl, hd_⟩; have hb := Drawn0.below hd_; replace HV3_0 := Aside0.mk (HV3_0.out.below hb); replace HV4_0 := Aside0.mk (HV4_0.out.below hb); replace HV5_0 := Aside0.mk (HV5_0.out.below hb); replace HV6_0 := Aside0.mk (HV6_0.out.below hb); replace HV9_0 := Aside0.mk (HV9_0.out.below hb); replace HV10_0 := Aside0.mk (HV10_0.out.below hb); replace BK1 := Aside0.mk (blk_below (g := gb1) (o := .cells #[.slice A0_0 l0_0.length c0_0] 47 (0, 0)) BK1.out hb); replace BK7 := Aside0.mk (blk_below (g := gb7) (o := .cells #[.slice Ao6_0 t6.length co6_0] 24 (0, 0)) BK7.out hb); replace HB := Aside0.mk (below_step HB.out hb); clear hb; (try clear hz10_1_0); (try clear hf10_1_0); (try clear hz10_7_0); (try clear hf10_7_0); have hz11_1_0 : w11.cell? ⟨gb1, 0, none⟩ = some (.slice A0_0 l0_0.length c0_0) := (blk_cell BK1.out 0).trans rfl; have hf11_1_0 := blk_frozen BK1.out 0; have hz11_7_0 : w11.cell? ⟨gb7, 0, none⟩ = some (.slice Ao6_0 t6.length co6_0) := (blk_cell BK7.out 0).trans rfl; have hf11_7_0 := blk_frozen BK7.out 0))
 replace HV3_0 := Aside0.mk (HV3_0.out.drew)
 replace HV4_0 := Aside0.mk (HV4_0.out.drew)
 replace HV5_0 := Aside0.mk (HV5_0.out.drew)
 replace HV6_0 := Aside0.mk (HV6_0.out.drew)
 replace HV9_0 := Aside0.mk (HV9_0.out.drew)
 replace HV10_0 := Aside0.mk (HV10_0.out.drew)
 replace BK1 := Aside0.mk (blk_drew BK1.out)
 replace BK7 := Aside0.mk (blk_drew BK7.out)
 replace HB := Aside0.mk (below_drew1 HB.out)
 refine start_ (n := 5) (S := fun w' => w'.cell? ⟨gb7, 0, none⟩ = some (.slice Ao6_0 t6.length co6_0) ∧ w'.cell? ⟨gb1, 0, none⟩ = some (.slice A0_0 l0_0.length c0_0)) (ds := []) (mk_ 5 0) (by kernel_rfl) rfl rfl ⟨(blk_cell BK7.out 0).trans rfl, (blk_cell BK1.out 0).trans rfl⟩ (fun hHeld => ?_)
 generalize w11.drew = w12 at HV3_0 HV4_0 HV5_0 HV6_0 HV9_0 HV10_0 BK1 BK7 HB hHeld ⊢
 refine tK2_ 0 (some 64) (mk_ 5 1) ?_
 refine tK2_ 1 (some 65) (mk_ 5 3) ?_
 refine oN_ 2 (some 66) (mk_ 5 7) (fun K hK => ?_)
 refine gO_ Try.func31 #[.agg #[.slice A0_0 l0_0.length c0_0]] ?_
 (with_reducible refine (laws_toMemory.calls k _ _ l0_0 t10 _ ?side1 ?side2 A13.out).mono ?_)
 (case side1 => exact Kd.C_below HR0_0.out HB.out)
 (case side2 => exact HC0_0.out)
 rintro e w13 ⟨vv13_0, rfl, ho0, hb⟩
 refine ⟨_, rfl, ?_⟩
 obtain ⟨lo13, hi13, hl1, hl2, hl3, hnew⟩ := St.new (hi10) HV10_0.out.1 hb.size
 have HN13 : Aside0 (hi10 ≤ lo13 ∧ lo13 ≤ hi13) := ⟨hl1, hl2⟩
 replace HV3_0 := Aside0.mk (HV3_0.out.below hb)
 replace HV4_0 := Aside0.mk (HV4_0.out.below hb)
 replace HV5_0 := Aside0.mk (HV5_0.out.below hb)
 replace HV6_0 := Aside0.mk (HV6_0.out.below hb)
 replace HV9_0 := Aside0.mk (HV9_0.out.below hb)
 replace HV10_0 := Aside0.mk (HV10_0.out.below hb)
 replace BK1 := Aside0.mk (blk_below (g := gb1) (o := .cells #[.slice A0_0 l0_0.length c0_0] 47 (0, 0)) BK1.out hb)
 replace BK7 := Aside0.mk (blk_below (g := gb7) (o := .cells #[.slice Ao6_0 t6.length co6_0] 24 (0, 0)) BK7.out hb)
 replace HB := Aside0.mk (below_step HB.out hb)
 obtain ⟨Ao13_0, co13_0, eo⟩ := Kd.R_slice ho0
 subst eo
 have HV13_0 := Aside0.mk (hnew _ _ _ _ _ _ ho0)
 have HIHV13_0 : Aside0 (hi13 ≤ hi13) := ⟨Nat.le_refl _⟩
 clear ho0
 clear hnew hl1 hl2 hl3
 clear hb
 refine hK.out _ _ ⟨(blk_cell BK7.out 0).trans rfl, (blk_cell BK1.out 0).trans rfl⟩ (fun hHeld => ?_)
 clear hK K
 refine norm_ (a' := ?_) ?_ ?_
 rotate_left
 ·show Act.put _ (some 66) _ = _
  simp only [Act.put, List.setIfInBounds_toArray, List.set_cons_zero, List.set_cons_succ, i64_w, i32_w]
  rfl
 refine oN_ 3 (some 67) (mk_ 5 15) (fun K hK => ?_)
 refine gO_ Try.func15 #[.agg #[.slice Ao6_0 t6.length co6_0], .agg #[.slice Ao13_0 t10.length co13_0]] ?_
 (with_reducible refine (laws_eqMemory.calls k _ _ t6 _ _ t10 true _ ?side1 ?side2 ?side3 ?side4 A14.out).mono ?_)
 (case side1 => exact HV6_0.out.reads)
 (case side2 => exact HV6_0.out.room)
 (case side3 => exact HV13_0.out.reads)
 (case side4 => exact HV13_0.out.room)
 rintro e w14 ⟨rfl, hb⟩
 refine ⟨_, rfl, ?_⟩
 replace HV3_0 := Aside0.mk (HV3_0.out.below hb)
 replace HV4_0 := Aside0.mk (HV4_0.out.below hb)
 replace HV5_0 := Aside0.mk (HV5_0.out.below hb)
 replace HV6_0 := Aside0.mk (HV6_0.out.below hb)
 replace HV9_0 := Aside0.mk (HV9_0.out.below hb)
 replace HV10_0 := Aside0.mk (HV10_0.out.below hb)
 replace HV13_0 := Aside0.mk (HV13_0.out.below hb)
 replace BK1 := Aside0.mk (blk_below (g := gb1) (o := .cells #[.slice A0_0 l0_0.length c0_0] 47 (0, 0)) BK1.out hb)
 replace BK7 := Aside0.mk (blk_below (g := gb7) (o := .cells #[.slice Ao6_0 t6.length co6_0] 24 (0, 0)) BK7.out hb)
 replace HB := Aside0.mk (below_step HB.out hb)
 clear hb
 refine hK.out _ _ ⟨(blk_cell BK7.out 0).trans rfl, (blk_cell BK1.out 0).trans rfl⟩ (fun hHeld => ?_)
 clear hK K
 refine norm_ (a' := ?_) ?_ ?_
 rotate_left
 ·show Act.put _ (some 67) _ = _
  simp only [Act.put, List.setIfInBounds_toArray, List.set_cons_zero, List.set_cons_succ, i64_w, i32_w]
  rfl
 refine pU_ 4 (some 68) (mk_ 5 31) ?_
 refine done_ (by kernel_rfl) ?_
 (try clear hz11_1_0)
 (try clear hf11_1_0)
 (try clear hz11_7_0)
 (try clear hf11_7_0)
 have hz14_1_0 : w14.cell? ⟨gb1, 0, none⟩ = some (.slice A0_0 l0_0.length c0_0) := (blk_cell BK1.out 0).trans rfl
 have hf14_1_0 := blk_frozen BK1.out 0
 have hz14_7_0 : w14.cell? ⟨gb7, 0, none⟩ = some (.slice Ao6_0 t6.length co6_0) := (blk_cell BK7.out 0).trans rfl
 have hf14_7_0 := blk_frozen BK7.out 0
 go_wp2_with (first | ((with_reducible refine gate_callee (f := 32) rfl ?_); refine gL_ (some 71) Try.func32 #[.slice A1 l1.length c1] ?_; (with_reducible refine (laws_toIntS.calls k _ _ l1 t11 _ ?side1 ?side2 A15.out).mono ?_); (case side1 => exact Kd.C_below HR1.out HB.out); (case side2 => exact HC1.out); rintro e w15 ⟨vv15_0, rfl, ho0, hb⟩; refine ⟨_, rfl, ?_⟩; obtain ⟨lo15, hi15, hl1, hl2, hl3, hnew⟩ := St.new (hi13) HV13_0.out.1 hb.size; have HN15 : Aside0 (hi13 ≤ lo15 ∧ lo15 ≤ hi15) := ⟨hl1, hl2⟩; replace HV3_0 := Aside0.mk (HV3_0.out.below hb); replace HV4_0 := Aside0.mk (HV4_0.out.below hb); replace HV5_0 := Aside0.mk (HV5_0.out.below hb); replace HV6_0 := Aside0.mk (HV6_0.out.below hb); replace HV9_0 := Aside0.mk (HV9_0.out.below hb); replace HV10_0 := Aside0.mk (HV10_0.out.below hb); replace HV13_0 := Aside0.mk (HV13_0.out.below hb); replace BK1 := Aside0.mk (blk_below (g := gb1) (o := .cells #[.slice A0_0 l0_0.length c0_0] 47 (0, 0)) BK1.out hb); replace BK7 := Aside0.mk (blk_below (g := gb7) (o := .cells #[.slice Ao6_0 t6.length co6_0] 24 (0, 0)) BK7.out hb); replace HB := Aside0.mk (below_step HB.out hb); obtain ⟨Ao15_0, co15_0, eo⟩ := Kd.R_slice ho0; subst eo; have HV15_0 := Aside0.mk (hnew _ _ _ _ _ _ ho0); have HIHV15_0 : Aside0 (hi15 ≤ hi15) := ⟨Nat.le_refl _⟩; clear ho0; clear hnew hl1 hl2 hl3; clear hb; (try clear hz14_1_0); (try clear hf14_1_0); (try clear hz14_7_0); (try clear hf14_7_0); have hz15_1_0 : w15.cell? ⟨gb1, 0, none⟩ = some (.slice A0_0 l0_0.length c0_0) := (blk_cell BK1.out 0).trans rfl; have hf15_1_0 := blk_frozen BK1.out 0; have hz15_7_0 : w15.cell? ⟨gb7, 0, none⟩ = some (.slice Ao6_0 t6.length co6_0) := (blk_cell BK7.out 0).trans rfl; have hf15_7_0 := blk_frozen BK7.out 0) | ((with_reducible refine gate_callee (f := 33) rfl ?_); refine gL_ (some 72) Try.func33 #[.slice Ao9_0 t7.length co9_0, .slice Ao15_0 t11.length co15_0] ?_; (with_reducible refine (laws_eqIntS.calls k _ _ t7 _ _ t11 true _ ?side1 ?side2 ?side3 ?side4 A16.out).mono ?_); (case side1 => exact HV9_0.out.reads); (case side2 => exact HV9_0.out.room); (case side3 => exact HV15_0.out.reads); (case side4 => exact HV15_0.out.room); rintro e w16 ⟨rfl, hd_⟩; refine ⟨_, rfl, ?_⟩; have hb := Drawn0.below hd_; replace HV3_0 := Aside0.mk (HV3_0.out.below hb); replace HV4_0 := Aside0.mk (HV4_0.out.below hb); replace HV5_0 := Aside0.mk (HV5_0.out.below hb); replace HV6_0 := Aside0.mk (HV6_0.out.below hb); replace HV9_0 := Aside0.mk (HV9_0.out.below hb); replace HV10_0 := Aside0.mk (HV10_0.out.below hb); replace HV13_0 := Aside0.mk (HV13_0.out.below hb); replace HV15_0 := Aside0.mk (HV15_0.out.below hb); replace BK1 := Aside0.mk (blk_below (g := gb1) (o := .cells #[.slice A0_0 l0_0.length c0_0] 47 (0, 0)) BK1.out hb); replace BK7 := Aside0.mk (blk_below (g := gb7) (o := .cells #[.slice Ao6_0 t6.length co6_0] 24 (0, 0)) BK7.out hb); replace HB := Aside0.mk (below_step HB.out hb); clear hb; (try clear hz15_1_0); (try clear hf15_1_0); (try clear hz15_7_0); (try clear hf15_7_0); have hz16_1_0 : w16.cell? ⟨gb1, 0, none⟩ = some (.slice A0_0 l0_0.length c0_0) := (blk_cell BK1.out 0).trans rfl; have hf16_1_0 := blk_frozen BK1.out 0; have hz16_7_0 : w16.cell? ⟨gb7, 0, none⟩ = some (.slice Ao6_0 t6.length co6_0) := (blk_cell BK7.out 0).trans rfl; have hf16_7_0 := blk_frozen BK7.out 0) | ((with_reducible refine gate_callee (f := 16) rfl ?_); obtain ⟨L17_0, hrv17_0, hll17_0⟩ := St.rowv (Rep.slice rep43 43) HV6_0.out; have HW17_0 := Aside0.mk (St.of_row (HV6_0.out.1) hrv17_0); have HX17 : Aside0 ((0 : Int) ≤ 1 ∧ (1 + (L17_0.length : Int) : Int) ≤ 4611686018427387904) := ⟨by have l0_ := hll17_0; have b_ := hwt17; omega⟩; have HLB17_0 : Aside0 (L17_0.length ≤ 1152921504606846976) := ⟨by have l0_ := hll17_0; have b_ := hwt17; omega⟩; clear hll17_0; refine gL_ (some 76) Try.func16 #[.agg #[.slice Ao6_0 t6.length co6_0], .int .i64 1] ?_; refine (wr_markMemory (fun k_ => lo6 ≤ k_ ∧ k_ < hi6) _ Ao6_0 t6.length co6_0 1 L17_0 HW17_0.out.now (fun j_ hj_ => Nat.lt_of_lt_of_le hj_.2 HV6_0.out.1) HX17.out.1 HX17.out.2).mono ?_; rintro e w17 ⟨rfl, hm, hw⟩; refine ⟨_, rfl, ?_⟩; have hi_HV6_0 := HV6_0.out.1; have hc17_0 := HW17_0.out.now.cells; replace HW17_0 := Aside0.mk (St.of_row (Nat.le_trans hi_HV6_0 hm.2.1.size) (RowV.mk hm HW17_0.out.now)); replace HV3_0 := Aside0.mk (HV3_0.out.mark hm (fun k_ hk_ => by have h1_ := hk_.1; have h2_ := hk_.2; have q0_ := HN1.out; have q1_ := HN3.out; have q2_ := HN4.out; have q3_ := HN5.out; have q4_ := HN6.out; have q5_ := HN7.out; have q6_ := HN9.out; have q7_ := HN10.out; have q8_ := HN13.out; have q9_ := HN15.out; have q10_ := HIHV3_0.out; omega)); replace HV4_0 := Aside0.mk (HV4_0.out.mark hm (fun k_ hk_ => by have h1_ := hk_.1; have h2_ := hk_.2; have q0_ := HN1.out; have q1_ := HN3.out; have q2_ := HN4.out; have q3_ := HN5.out; have q4_ := HN6.out; have q5_ := HN7.out; have q6_ := HN9.out; have q7_ := HN10.out; have q8_ := HN13.out; have q9_ := HN15.out; have q10_ := HIHV4_0.out; omega)); replace HV5_0 := Aside0.mk (HV5_0.out.mark hm (fun k_ hk_ => by have h1_ := hk_.1; have h2_ := hk_.2; have q0_ := HN1.out; have q1_ := HN3.out; have q2_ := HN4.out; have q3_ := HN5.out; have q4_ := HN6.out; have q5_ := HN7.out; have q6_ := HN9.out; have q7_ := HN10.out; have q8_ := HN13.out; have q9_ := HN15.out; have q10_ := HIHV5_0.out; omega)); replace HV9_0 := Aside0.mk (HV9_0.out.mark hm (fun k_ hk_ => by have h1_ := hk_.1; have h2_ := hk_.2; have q0_ := HN1.out; have q1_ := HN3.out; have q2_ := HN4.out; have q3_ := HN5.out; have q4_ := HN6.out; have q5_ := HN7.out; have q6_ := HN9.out; have q7_ := HN10.out; have q8_ := HN13.out; have q9_ := HN15.out; have q10_ := HIHV9_0.out; omega)); replace HV10_0 := Aside0.mk (HV10_0.out.mark hm (fun k_ hk_ => by have h1_ := hk_.1; have h2_ := hk_.2; have q0_ := HN1.out; have q1_ := HN3.out; have q2_ := HN4.out; have q3_ := HN5.out; have q4_ := HN6.out; have q5_ := HN7.out; have q6_ := HN9.out; have q7_ := HN10.out; have q8_ := HN13.out; have q9_ := HN15.out; have q10_ := HIHV10_0.out; omega)); replace HV13_0 := Aside0.mk (HV13_0.out.mark hm (fun k_ hk_ => by have h1_ := hk_.1; have h2_ := hk_.2; have q0_ := HN1.out; have q1_ := HN3.out; have q2_ := HN4.out; have q3_ := HN5.out; have q4_ := HN6.out; have q5_ := HN7.out; have q6_ := HN9.out; have q7_ := HN10.out; have q8_ := HN13.out; have q9_ := HN15.out; have q10_ := HIHV13_0.out; omega)); replace HV15_0 := Aside0.mk (HV15_0.out.mark hm (fun k_ hk_ => by have h1_ := hk_.1; have h2_ := hk_.2; have q0_ := HN1.out; have q1_ := HN3.out; have q2_ := HN4.out; have q3_ := HN5.out; have q4_ := HN6.out; have q5_ := HN7.out; have q6_ := HN9.out; have q7_ := HN10.out; have q8_ := HN13.out; have q9_ := HN15.out; have q10_ := HIHV15_0.out; omega)); replace BK1 := Aside0.mk (blk_kept BK1.out hm.1 (fun hk_ => by have h1_ := hk_.1; have h2_ := hk_.2; have q0_ := HN1.out; have q1_ := HN3.out; have q2_ := HN4.out; have q3_ := HN5.out; have q4_ := HN6.out; have q5_ := HN7.out; have q6_ := HN9.out; have q7_ := HN10.out; have q8_ := HN13.out; have q9_ := HN15.out; omega)); replace BK7 := Aside0.mk (blk_kept BK7.out hm.1 (fun hk_ => by have h1_ := hk_.1; have h2_ := hk_.2; have q0_ := HN1.out; have q1_ := HN3.out; have q2_ := HN4.out; have q3_ := HN5.out; have q4_ := HN6.out; have q5_ := HN7.out; have q6_ := HN9.out; have q7_ := HN10.out; have q8_ := HN13.out; have q9_ := HN15.out; omega)); replace HB := Aside0.mk (HB.out.trans (hm.below HB.out.size (fun k_ hk_ => by have h1_ := hk_.1; have q0_ := HN1.out; have q1_ := HN3.out; have q2_ := HN4.out; have q3_ := HN5.out; have q4_ := HN6.out; have q5_ := HN7.out; have q6_ := HN9.out; have q7_ := HN10.out; have q8_ := HN13.out; have q9_ := HN15.out; omega))); have HIHW17_0 : Aside0 (hi6 ≤ hi6) := ⟨Nat.le_refl _⟩; clear hrv17_0 hc17_0; clear HV6_0 hi_HV6_0; clear hm hw; have hl17 : decide (1 + (L17_0.length : Int) < 0) = false := decide_eq_false (by have h1_ := HX17.out; omega); (try clear hz16_1_0); (try clear hf16_1_0); (try clear hz16_7_0); (try clear hf16_7_0); have hz17_1_0 : w17.cell? ⟨gb1, 0, none⟩ = some (.slice A0_0 l0_0.length c0_0) := (blk_cell BK1.out 0).trans rfl; have hf17_1_0 := blk_frozen BK1.out 0; have hz17_7_0 : w17.cell? ⟨gb7, 0, none⟩ = some (.slice Ao6_0 t6.length co6_0) := (blk_cell BK7.out 0).trans rfl; have hf17_7_0 := blk_frozen BK7.out 0) | ((with_reducible refine gate_callee (f := 34) rfl ?_); obtain ⟨L18_0, hrv18_0, hll18_0⟩ := St.rowv Rep.int HV9_0.out; have HW18_0 := Aside0.mk (St.of_row (HV9_0.out.1) hrv18_0); have HX18 : Aside0 ((0 : Int) ≤ 1 + (L17_0.length : Int) ∧ (1 + (L17_0.length : Int) + (L18_0.length : Int) : Int) ≤ 4611686018427387904) := ⟨by have l0_ := hll18_0; have y0_ := HLB17_0.out; have b_ := hwt18; omega⟩; have HLB18_0 : Aside0 (L18_0.length ≤ 1152921504606846976) := ⟨by have l0_ := hll18_0; have b_ := hwt18; omega⟩; clear hll18_0; refine gL_ (some 79) Try.func34 #[.slice Ao9_0 t7.length co9_0, .int .i64 (1 + (L17_0.length : Int))] ?_; refine (wr_markIntS (fun k_ => lo9 ≤ k_ ∧ k_ < hi9) _ Ao9_0 t7.length co9_0 (1 + (L17_0.length : Int)) L18_0 HW18_0.out.now HX18.out.1 HX18.out.2).mono ?_; rintro e w18 ⟨rfl, hm, hw⟩; refine ⟨_, rfl, ?_⟩; have hi_HV9_0 := HV9_0.out.1; have hc18_0 := HW18_0.out.now.cells; have hh_ := WrB.held hw.B (fun c hc => (hc18_0 c hc).1) (RowV.ints HW18_0.out.now); have HH18 := Aside0.mk (St.of_held (lo := lo9) (hi := hi9) (Nat.le_trans hi_HV9_0 hm.2.1.size) (fun c hc => (hc18_0 c hc).2) hh_); clear hh_; replace HW18_0 := Aside0.mk (St.of_row (Nat.le_trans hi_HV9_0 hm.2.1.size) (RowV.mk hm HW18_0.out.now)); replace HV3_0 := Aside0.mk (HV3_0.out.mark hm (fun k_ hk_ => by have h1_ := hk_.1; have h2_ := hk_.2; have q0_ := HN1.out; have q1_ := HN3.out; have q2_ := HN4.out; have q3_ := HN5.out; have q4_ := HN6.out; have q5_ := HN7.out; have q6_ := HN9.out; have q7_ := HN10.out; have q8_ := HN13.out; have q9_ := HN15.out; have q10_ := HIHV3_0.out; omega)); replace HV4_0 := Aside0.mk (HV4_0.out.mark hm (fun k_ hk_ => by have h1_ := hk_.1; have h2_ := hk_.2; have q0_ := HN1.out; have q1_ := HN3.out; have q2_ := HN4.out; have q3_ := HN5.out; have q4_ := HN6.out; have q5_ := HN7.out; have q6_ := HN9.out; have q7_ := HN10.out; have q8_ := HN13.out; have q9_ := HN15.out; have q10_ := HIHV4_0.out; omega)); replace HV5_0 := Aside0.mk (HV5_0.out.mark hm (fun k_ hk_ => by have h1_ := hk_.1; have h2_ := hk_.2; have q0_ := HN1.out; have q1_ := HN3.out; have q2_ := HN4.out; have q3_ := HN5.out; have q4_ := HN6.out; have q5_ := HN7.out; have q6_ := HN9.out; have q7_ := HN10.out; have q8_ := HN13.out; have q9_ := HN15.out; have q10_ := HIHV5_0.out; omega)); replace HV10_0 := Aside0.mk (HV10_0.out.mark hm (fun k_ hk_ => by have h1_ := hk_.1; have h2_ := hk_.2; have q0_ := HN1.out; have q1_ := HN3.out; have q2_ := HN4.out; have q3_ := HN5.out; have q4_ := HN6.out; have q5_ := HN7.out; have q6_ := HN9.out; have q7_ := HN10.out; have q8_ := HN13.out; have q9_ := HN15.out; have q10_ := HIHV10_0.out; omega)); replace HV13_0 := Aside0.mk (HV13_0.out.mark hm (fun k_ hk_ => by have h1_ := hk_.1; have h2_ := hk_.2; have q0_ := HN1.out; have q1_ := HN3.out; have q2_ := HN4.out; have q3_ := HN5.out; have q4_ := HN6.out; have q5_ := HN7.out; have q6_ := HN9.out; have q7_ := HN10.out; have q8_ := HN13.out; have q9_ := HN15.out; have q10_ := HIHV13_0.out; omega)); replace HV15_0 := Aside0.mk (HV15_0.out.mark hm (fun k_ hk_ => by have h1_ := hk_.1; have h2_ := hk_.2; have q0_ := HN1.out; have q1_ := HN3.out; have q2_ := HN4.out; have q3_ := HN5.out; have q4_ := HN6.out; have q5_ := HN7.out; have q6_ := HN9.out; have q7_ := HN10.out; have q8_ := HN13.out; have q9_ := HN15.out; have q10_ := HIHV15_0.out; omega)); replace HW17_0 := Aside0.mk (HW17_0.out.mark hm (fun k_ hk_ => by have h1_ := hk_.1; have h2_ := hk_.2; have q0_ := HN1.out; have q1_ := HN3.out; have q2_ := HN4.out; have q3_ := HN5.out; have q4_ := HN6.out; have q5_ := HN7.out; have q6_ := HN9.out; have q7_ := HN10.out; have q8_ := HN13.out; have q9_ := HN15.out; have q10_ := HIHW17_0.out; omega)); replace BK1 := Aside0.mk (blk_kept BK1.out hm.1 (fun hk_ => by have h1_ := hk_.1; have h2_ := hk_.2; have q0_ := HN1.out; have q1_ := HN3.out; have q2_ := HN4.out; have q3_ := HN5.out; have q4_ := HN6.out; have q5_ := HN7.out; have q6_ := HN9.out; have q7_ := HN10.out; have q8_ := HN13.out; have q9_ := HN15.out; omega)); replace BK7 := Aside0.mk (blk_kept BK7.out hm.1 (fun hk_ => by have h1_ := hk_.1; have h2_ := hk_.2; have q0_ := HN1.out; have q1_ := HN3.out; have q2_ := HN4.out; have q3_ := HN5.out; have q4_ := HN6.out; have q5_ := HN7.out; have q6_ := HN9.out; have q7_ := HN10.out; have q8_ := HN13.out; have q9_ := HN15.out; omega)); replace HB := Aside0.mk (HB.out.trans (hm.below HB.out.size (fun k_ hk_ => by have h1_ := hk_.1; have q0_ := HN1.out; have q1_ := HN3.out; have q2_ := HN4.out; have q3_ := HN5.out; have q4_ := HN6.out; have q5_ := HN7.out; have q6_ := HN9.out; have q7_ := HN10.out; have q8_ := HN13.out; have q9_ := HN15.out; omega))); have HIHW18_0 : Aside0 (hi9 ≤ hi9) := ⟨Nat.le_refl _⟩; clear hrv18_0 hc18_0; have HIHH18 : Aside0 (hi9 ≤ hi9) := ⟨Nat.le_refl _⟩; clear HV9_0 hi_HV9_0; clear hm hw; have hl18 : decide (1 + (L17_0.length : Int) + (L18_0.length : Int) < 0) = false := decide_eq_false (by have h1_ := HX18.out; omega); (try clear hz17_1_0); (try clear hf17_1_0); (try clear hz17_7_0); (try clear hf17_7_0); have hz18_1_0 : w18.cell? ⟨gb1, 0, none⟩ = some (.slice A0_0 l0_0.length c0_0) := (blk_cell BK1.out 0).trans rfl; have hf18_1_0 := blk_frozen BK1.out 0; have hz18_7_0 : w18.cell? ⟨gb7, 0, none⟩ = some (.slice Ao6_0 t6.length co6_0) := (blk_cell BK7.out 0).trans rfl; have hf18_7_0 := blk_frozen BK7.out 0) | (go_at_call 33; (with_reducible refine (laws_eqIntS.calls k _ _ t9 _ _ t5 true _ ?side1 ?side2 ?side3 ?side4 A19.out).mono ?_); (case side1 => exact HV10_0.out.reads); (case side2 => exact HV10_0.out.room); (case side3 => exact HV5_0.out.reads); (case side4 => exact HV5_0.out.room); rintro e w19 ⟨rfl, hd_⟩; have hb := Drawn0.below hd_; replace HV3_0 := Aside0.mk (HV3_0.out.below hb); replace HV4_0 := Aside0.mk (HV4_0.out.below hb); replace HV5_0 := Aside0.mk (HV5_0.out.below hb); replace HV10_0 := Aside0.mk (HV10_0.out.below hb); replace HV13_0 := Aside0.mk (HV13_0.out.below hb); replace HV15_0 := Aside0.mk (HV15_0.out.below hb); replace HW17_0 := Aside0.mk (HW17_0.out.below hb); replace HW18_0 := Aside0.mk (HW18_0.out.below hb); replace HH18 := Aside0.mk (HH18.out.below hb); replace BK1 := Aside0.mk (blk_below (g := gb1) (o := .cells #[.slice A0_0 l0_0.length c0_0] 47 (0, 0)) BK1.out hb); replace BK7 := Aside0.mk (blk_below (g := gb7) (o := .cells #[.slice Ao6_0 t6.length co6_0] 24 (0, 0)) BK7.out hb); replace HB := Aside0.mk (below_step HB.out hb); clear hb; (try clear hz18_1_0); (try clear hf18_1_0); (try clear hz18_7_0); (try clear hf18_7_0); have hz19_1_0 : w19.cell? ⟨gb1, 0, none⟩ = some (.slice A0_0 l0_0.length c0_0) := (blk_cell BK1.out 0).trans rfl; have hf19_1_0 := blk_frozen BK1.out 0; have hz19_7_0 : w19.cell? ⟨gb7, 0, none⟩ = some (.slice Ao6_0 t6.length co6_0) := (blk_cell BK7.out 0).trans rfl; have hf19_7_0 := blk_frozen BK7.out 0) | ((with_reducible refine gate_callee (f := 34) rfl ?_); obtain ⟨L20_0, hrv20_0, hll20_0⟩ := St.rowv Rep.int HV10_0.out; have HW20_0 := Aside0.mk (St.of_row (HV10_0.out.1) hrv20_0); have HX20 : Aside0 ((0 : Int) ≤ 1 ∧ (1 + (L20_0.length : Int) : Int) ≤ 4611686018427387904) := ⟨by have l0_ := hll20_0; have y0_ := HLB17_0.out; have y1_ := HLB18_0.out; have b_ := hwt20; omega⟩; have HLB20_0 : Aside0 (L20_0.length ≤ 1152921504606846976) := ⟨by have l0_ := hll20_0; have b_ := hwt20; omega⟩; clear hll20_0; refine gL_ (some 95) Try.func34 #[.slice Ao10_0 t9.length co10_0, .int .i64 1] ?_; refine (wr_markIntS (fun k_ => lo10 ≤ k_ ∧ k_ < hi10) _ Ao10_0 t9.length co10_0 1 L20_0 HW20_0.out.now HX20.out.1 HX20.out.2).mono ?_; rintro e w20 ⟨rfl, hm, hw⟩; refine ⟨_, rfl, ?_⟩; have hi_HV10_0 := HV10_0.out.1; have hc20_0 := HW20_0.out.now.cells; have hh_ := WrB.held hw.B (fun c hc => (hc20_0 c hc).1) (RowV.ints HW20_0.out.now); have HH20 := Aside0.mk (St.of_held (lo := lo10) (hi := hi10) (Nat.le_trans hi_HV10_0 hm.2.1.size) (fun c hc => (hc20_0 c hc).2) hh_); clear hh_; replace HW20_0 := Aside0.mk (St.of_row (Nat.le_trans hi_HV10_0 hm.2.1.size) (RowV.mk hm HW20_0.out.now)); replace HV3_0 := Aside0.mk (HV3_0.out.mark hm (fun k_ hk_ => by have h1_ := hk_.1; have h2_ := hk_.2; have q0_ := HN1.out; have q1_ := HN3.out; have q2_ := HN4.out; have q3_ := HN5.out; have q4_ := HN6.out; have q5_ := HN7.out; have q6_ := HN9.out; have q7_ := HN10.out; have q8_ := HN13.out; have q9_ := HN15.out; have q10_ := HIHV3_0.out; omega)); replace HV4_0 := Aside0.mk (HV4_0.out.mark hm (fun k_ hk_ => by have h1_ := hk_.1; have h2_ := hk_.2; have q0_ := HN1.out; have q1_ := HN3.out; have q2_ := HN4.out; have q3_ := HN5.out; have q4_ := HN6.out; have q5_ := HN7.out; have q6_ := HN9.out; have q7_ := HN10.out; have q8_ := HN13.out; have q9_ := HN15.out; have q10_ := HIHV4_0.out; omega)); replace HV5_0 := Aside0.mk (HV5_0.out.mark hm (fun k_ hk_ => by have h1_ := hk_.1; have h2_ := hk_.2; have q0_ := HN1.out; have q1_ := HN3.out; have q2_ := HN4.out; have q3_ := HN5.out; have q4_ := HN6.out; have q5_ := HN7.out; have q6_ := HN9.out; have q7_ := HN10.out; have q8_ := HN13.out; have q9_ := HN15.out; have q10_ := HIHV5_0.out; omega)); replace HV13_0 := Aside0.mk (HV13_0.out.mark hm (fun k_ hk_ => by have h1_ := hk_.1; have h2_ := hk_.2; have q0_ := HN1.out; have q1_ := HN3.out; have q2_ := HN4.out; have q3_ := HN5.out; have q4_ := HN6.out; have q5_ := HN7.out; have q6_ := HN9.out; have q7_ := HN10.out; have q8_ := HN13.out; have q9_ := HN15.out; have q10_ := HIHV13_0.out; omega)); replace HV15_0 := Aside0.mk (HV15_0.out.mark hm (fun k_ hk_ => by have h1_ := hk_.1; have h2_ := hk_.2; have q0_ := HN1.out; have q1_ := HN3.out; have q2_ := HN4.out; have q3_ := HN5.out; have q4_ := HN6.out; have q5_ := HN7.out; have q6_ := HN9.out; have q7_ := HN10.out; have q8_ := HN13.out; have q9_ := HN15.out; have q10_ := HIHV15_0.out; omega)); replace HW17_0 := Aside0.mk (HW17_0.out.mark hm (fun k_ hk_ => by have h1_ := hk_.1; have h2_ := hk_.2; have q0_ := HN1.out; have q1_ := HN3.out; have q2_ := HN4.out; have q3_ := HN5.out; have q4_ := HN6.out; have q5_ := HN7.out; have q6_ := HN9.out; have q7_ := HN10.out; have q8_ := HN13.out; have q9_ := HN15.out; have q10_ := HIHW17_0.out; omega)); replace HW18_0 := Aside0.mk (HW18_0.out.mark hm (fun k_ hk_ => by have h1_ := hk_.1; have h2_ := hk_.2; have q0_ := HN1.out; have q1_ := HN3.out; have q2_ := HN4.out; have q3_ := HN5.out; have q4_ := HN6.out; have q5_ := HN7.out; have q6_ := HN9.out; have q7_ := HN10.out; have q8_ := HN13.out; have q9_ := HN15.out; have q10_ := HIHW18_0.out; omega)); replace HH18 := Aside0.mk (HH18.out.mark hm (fun k_ hk_ => by have h1_ := hk_.1; have h2_ := hk_.2; have q0_ := HN1.out; have q1_ := HN3.out; have q2_ := HN4.out; have q3_ := HN5.out; have q4_ := HN6.out; have q5_ := HN7.out; have q6_ := HN9.out; have q7_ := HN10.out; have q8_ := HN13.out; have q9_ := HN15.out; have q10_ := HIHH18.out; omega)); replace BK1 := Aside0.mk (blk_kept BK1.out hm.1 (fun hk_ => by have h1_ := hk_.1; have h2_ := hk_.2; have q0_ := HN1.out; have q1_ := HN3.out; have q2_ := HN4.out; have q3_ := HN5.out; have q4_ := HN6.out; have q5_ := HN7.out; have q6_ := HN9.out; have q7_ := HN10.out; have q8_ := HN13.out; have q9_ := HN15.out; omega)); replace BK7 := Aside0.mk (blk_kept BK7.out hm.1 (fun hk_ => by have h1_ := hk_.1; have h2_ := hk_.2; have q0_ := HN1.out; have q1_ := HN3.out; have q2_ := HN4.out; have q3_ := HN5.out; have q4_ := HN6.out; have q5_ := HN7.out; have q6_ := HN9.out; have q7_ := HN10.out; have q8_ := HN13.out; have q9_ := HN15.out; omega)); replace HB := Aside0.mk (HB.out.trans (hm.below HB.out.size (fun k_ hk_ => by have h1_ := hk_.1; have q0_ := HN1.out; have q1_ := HN3.out; have q2_ := HN4.out; have q3_ := HN5.out; have q4_ := HN6.out; have q5_ := HN7.out; have q6_ := HN9.out; have q7_ := HN10.out; have q8_ := HN13.out; have q9_ := HN15.out; omega))); have HIHW20_0 : Aside0 (hi10 ≤ hi10) := ⟨Nat.le_refl _⟩; clear hrv20_0 hc20_0; have HIHH20 : Aside0 (hi10 ≤ hi10) := ⟨Nat.le_refl _⟩; clear HV10_0 hi_HV10_0; clear hm hw; have hl20 : decide (1 + (L20_0.length : Int) < 0) = false := decide_eq_false (by have h1_ := HX20.out; omega); (try clear hz19_1_0); (try clear hf19_1_0); (try clear hz19_7_0); (try clear hf19_7_0); have hz20_1_0 : w20.cell? ⟨gb1, 0, none⟩ = some (.slice A0_0 l0_0.length c0_0) := (blk_cell BK1.out 0).trans rfl; have hf20_1_0 := blk_frozen BK1.out 0; have hz20_7_0 : w20.cell? ⟨gb7, 0, none⟩ = some (.slice Ao6_0 t6.length co6_0) := (blk_cell BK7.out 0).trans rfl; have hf20_7_0 := blk_frozen BK7.out 0) | ((with_reducible refine gate_callee (f := 35) rfl ?_); refine gL_ (some 98) Try.func35 #[.slice Ao10_0 t9.length co10_0, .int .i64 1] ?_; refine (hd_heldIntS (fun k_ => lo10 ≤ k_ ∧ k_ < hi10) _ Ao10_0 t9.length co10_0 1 L20_0 HW20_0.out.now HH20.out.now HX20.out.1 HX20.out.2).mono ?_; rintro e w21 ⟨rfl, hd_⟩; refine ⟨_, rfl, ?_⟩; have hb := Drawn0.below hd_; replace HV3_0 := Aside0.mk (HV3_0.out.below hb); replace HV4_0 := Aside0.mk (HV4_0.out.below hb); replace HV5_0 := Aside0.mk (HV5_0.out.below hb); replace HV13_0 := Aside0.mk (HV13_0.out.below hb); replace HV15_0 := Aside0.mk (HV15_0.out.below hb); replace HW17_0 := Aside0.mk (HW17_0.out.below hb); replace HW18_0 := Aside0.mk (HW18_0.out.below hb); replace HH18 := Aside0.mk (HH18.out.below hb); replace HW20_0 := Aside0.mk (HW20_0.out.below hb); replace HH20 := Aside0.mk (HH20.out.below hb); replace BK1 := Aside0.mk (blk_below (g := gb1) (o := .cells #[.slice A0_0 l0_0.length c0_0] 47 (0, 0)) BK1.out hb); replace BK7 := Aside0.mk (blk_below (g := gb7) (o := .cells #[.slice Ao6_0 t6.length co6_0] 24 (0, 0)) BK7.out hb); replace HB := Aside0.mk (below_step HB.out hb); clear hd_ hb; have hl21 : decide (1 + (L20_0.length : Int) < 0) = false := decide_eq_false (by have h1_ := HX20.out; omega); (try clear hz20_1_0); (try clear hf20_1_0); (try clear hz20_7_0); (try clear hf20_7_0); have hz21_1_0 : w21.cell? ⟨gb1, 0, none⟩ = some (.slice A0_0 l0_0.length c0_0) := (blk_cell BK1.out 0).trans rfl; have hf21_1_0 := blk_frozen BK1.out 0; have hz21_7_0 : w21.cell? ⟨gb7, 0, none⟩ = some (.slice Ao6_0 t6.length co6_0) := (blk_cell BK7.out 0).trans rfl; have hf21_7_0 := blk_frozen BK7.out 0) | ((with_reducible refine gate_callee (f := 31) rfl ?_); refine gL_ (some 106) Try.func31 #[.agg #[.slice A0_0 l0_0.length c0_0]] ?_; (with_reducible refine (laws_toMemory.calls k _ _ l0_0 t12 _ ?side1 ?side2 A22.out).mono ?_); (case side1 => exact Kd.C_below HR0_0.out HB.out); (case side2 => exact HC0_0.out); rintro e w22 ⟨vv22_0, rfl, ho0, hb⟩; refine ⟨_, rfl, ?_⟩; obtain ⟨lo22, hi22, hl1, hl2, hl3, hnew⟩ := St.new (hi15) HV15_0.out.1 hb.size; have HN22 : Aside0 (hi15 ≤ lo22 ∧ lo22 ≤ hi22) := ⟨hl1, hl2⟩; replace HV3_0 := Aside0.mk (HV3_0.out.below hb); replace HV4_0 := Aside0.mk (HV4_0.out.below hb); replace HV5_0 := Aside0.mk (HV5_0.out.below hb); replace HV13_0 := Aside0.mk (HV13_0.out.below hb); replace HV15_0 := Aside0.mk (HV15_0.out.below hb); replace HW17_0 := Aside0.mk (HW17_0.out.below hb); replace HW18_0 := Aside0.mk (HW18_0.out.below hb); replace HH18 := Aside0.mk (HH18.out.below hb); replace HW20_0 := Aside0.mk (HW20_0.out.below hb); replace HH20 := Aside0.mk (HH20.out.below hb); replace BK1 := Aside0.mk (blk_below (g := gb1) (o := .cells #[.slice A0_0 l0_0.length c0_0] 47 (0, 0)) BK1.out hb); replace BK7 := Aside0.mk (blk_below (g := gb7) (o := .cells #[.slice Ao6_0 t6.length co6_0] 24 (0, 0)) BK7.out hb); replace HB := Aside0.mk (below_step HB.out hb); obtain ⟨Ao22_0, co22_0, eo⟩ := Kd.R_slice ho0; subst eo; have HV22_0 := Aside0.mk (hnew _ _ _ _ _ _ ho0); have HIHV22_0 : Aside0 (hi22 ≤ hi22) := ⟨Nat.le_refl _⟩; clear ho0; clear hnew hl1 hl2 hl3; clear hb; (try clear hz21_1_0); (try clear hf21_1_0); (try clear hz21_7_0); (try clear hf21_7_0); have hz22_1_0 : w22.cell? ⟨gb1, 0, none⟩ = some (.slice A0_0 l0_0.length c0_0) := (blk_cell BK1.out 0).trans rfl; have hf22_1_0 := blk_frozen BK1.out 0; have hz22_7_0 : w22.cell? ⟨gb7, 0, none⟩ = some (.slice Ao6_0 t6.length co6_0) := (blk_cell BK7.out 0).trans rfl; have hf22_7_0 := blk_frozen BK7.out 0) | ((with_reducible refine gate_callee (f := 32) rfl ?_); refine gL_ (some 108) Try.func32 #[.slice A1 l1.length c1] ?_; (with_reducible refine (laws_toIntS.calls k _ _ l1 t13 _ ?side1 ?side2 A23.out).mono ?_); (case side1 => exact Kd.C_below HR1.out HB.out); (case side2 => exact HC1.out); rintro e w23 ⟨vv23_0, rfl, ho0, hb⟩; refine ⟨_, rfl, ?_⟩; obtain ⟨lo23, hi23, hl1, hl2, hl3, hnew⟩ := St.new (hi22) HV22_0.out.1 hb.size; have HN23 : Aside0 (hi22 ≤ lo23 ∧ lo23 ≤ hi23) := ⟨hl1, hl2⟩; replace HV3_0 := Aside0.mk (HV3_0.out.below hb); replace HV4_0 := Aside0.mk (HV4_0.out.below hb); replace HV5_0 := Aside0.mk (HV5_0.out.below hb); replace HV13_0 := Aside0.mk (HV13_0.out.below hb); replace HV15_0 := Aside0.mk (HV15_0.out.below hb); replace HW17_0 := Aside0.mk (HW17_0.out.below hb); replace HW18_0 := Aside0.mk (HW18_0.out.below hb); replace HH18 := Aside0.mk (HH18.out.below hb); replace HW20_0 := Aside0.mk (HW20_0.out.below hb); replace HH20 := Aside0.mk (HH20.out.below hb); replace HV22_0 := Aside0.mk (HV22_0.out.below hb); replace BK1 := Aside0.mk (blk_below (g := gb1) (o := .cells #[.slice A0_0 l0_0.length c0_0] 47 (0, 0)) BK1.out hb); replace BK7 := Aside0.mk (blk_below (g := gb7) (o := .cells #[.slice Ao6_0 t6.length co6_0] 24 (0, 0)) BK7.out hb); replace HB := Aside0.mk (below_step HB.out hb); obtain ⟨Ao23_0, co23_0, eo⟩ := Kd.R_slice ho0; subst eo; have HV23_0 := Aside0.mk (hnew _ _ _ _ _ _ ho0); have HIHV23_0 : Aside0 (hi23 ≤ hi23) := ⟨Nat.le_refl _⟩; clear ho0; clear hnew hl1 hl2 hl3; clear hb; (try clear hz22_1_0); (try clear hf22_1_0); (try clear hz22_7_0); (try clear hf22_7_0); have hz23_1_0 : w23.cell? ⟨gb1, 0, none⟩ = some (.slice A0_0 l0_0.length c0_0) := (blk_cell BK1.out 0).trans rfl; have hf23_1_0 := blk_frozen BK1.out 0; have hz23_7_0 : w23.cell? ⟨gb7, 0, none⟩ = some (.slice Ao6_0 t6.length co6_0) := (blk_cell BK7.out 0).trans rfl; have hf23_7_0 := blk_frozen BK7.out 0) | ((with_reducible refine gate_callee (f := 21) rfl ?_); refine gL_ (some 112) Try.func21 #[.agg #[.slice Ao22_0 t12.length co22_0], .slice Ao23_0 t13.length co23_0, .int .i64 a2, .int .i64 a3, .bool a4] ?_; (with_reducible refine (impl_Load.calls k _ _ t12 _ _ t13 a2 a3 a4 t4 t15 _ ?side1 ?side2 ?side3 ?side4 A24.out).mono ?_); (case side1 => exact HV22_0.out.reads); (case side2 => exact HV22_0.out.room); (case side3 => exact HV23_0.out.reads); (case side4 => exact HV23_0.out.room); rintro e w24 ⟨vv24_1, rfl, ho0, hb⟩; refine ⟨_, rfl, ?_⟩; obtain ⟨lo24, hi24, hl1, hl2, hl3, hnew⟩ := St.new (hi23) HV23_0.out.1 hb.size; have HN24 : Aside0 (hi23 ≤ lo24 ∧ lo24 ≤ hi24) := ⟨hl1, hl2⟩; replace HV3_0 := Aside0.mk (HV3_0.out.below hb); replace HV4_0 := Aside0.mk (HV4_0.out.below hb); replace HV5_0 := Aside0.mk (HV5_0.out.below hb); replace HV13_0 := Aside0.mk (HV13_0.out.below hb); replace HV15_0 := Aside0.mk (HV15_0.out.below hb); replace HW17_0 := Aside0.mk (HW17_0.out.below hb); replace HW18_0 := Aside0.mk (HW18_0.out.below hb); replace HH18 := Aside0.mk (HH18.out.below hb); replace HW20_0 := Aside0.mk (HW20_0.out.below hb); replace HH20 := Aside0.mk (HH20.out.below hb); replace HV22_0 := Aside0.mk (HV22_0.out.below hb); replace HV23_0 := Aside0.mk (HV23_0.out.below hb); replace BK1 := Aside0.mk (blk_below (g := gb1) (o := .cells #[.slice A0_0 l0_0.length c0_0] 47 (0, 0)) BK1.out hb); replace BK7 := Aside0.mk (blk_below (g := gb7) (o := .cells #[.slice Ao6_0 t6.length co6_0] 24 (0, 0)) BK7.out hb); replace HB := Aside0.mk (below_step HB.out hb); obtain ⟨Ao24_0, co24_0, eo⟩ := Kd.R_slice ho0; subst eo; have HV24_0 := Aside0.mk (hnew _ _ _ _ _ _ ho0); have HIHV24_0 : Aside0 (hi24 ≤ hi24) := ⟨Nat.le_refl _⟩; clear ho0; clear hnew hl1 hl2 hl3; clear hb; (try clear hz23_1_0); (try clear hf23_1_0); (try clear hz23_7_0); (try clear hf23_7_0); have hz24_1_0 : w24.cell? ⟨gb1, 0, none⟩ = some (.slice A0_0 l0_0.length c0_0) := (blk_cell BK1.out 0).trans rfl; have hf24_1_0 := blk_frozen BK1.out 0; have hz24_7_0 : w24.cell? ⟨gb7, 0, none⟩ = some (.slice Ao6_0 t6.length co6_0) := (blk_cell BK7.out 0).trans rfl; have hf24_7_0 := blk_frozen BK7.out 0) | (go_at_call 33; (with_reducible refine (laws_eqIntS.calls k _ _ t15 _ _ t5 true _ ?side1 ?side2 ?side3 ?side4 A25.out).mono ?_); (case side1 => exact HV24_0.out.reads); (case side2 => exact HV24_0.out.room); (case side3 => exact HV5_0.out.reads); (case side4 => exact HV5_0.out.room); rintro e w25 ⟨rfl, hd_⟩; have hb := Drawn0.below hd_; replace HV3_0 := Aside0.mk (HV3_0.out.below hb); replace HV4_0 := Aside0.mk (HV4_0.out.below hb); replace HV5_0 := Aside0.mk (HV5_0.out.below hb); replace HV13_0 := Aside0.mk (HV13_0.out.below hb); replace HV15_0 := Aside0.mk (HV15_0.out.below hb); replace HW17_0 := Aside0.mk (HW17_0.out.below hb); replace HW18_0 := Aside0.mk (HW18_0.out.below hb); replace HH18 := Aside0.mk (HH18.out.below hb); replace HW20_0 := Aside0.mk (HW20_0.out.below hb); replace HH20 := Aside0.mk (HH20.out.below hb); replace HV22_0 := Aside0.mk (HV22_0.out.below hb); replace HV23_0 := Aside0.mk (HV23_0.out.below hb); replace HV24_0 := Aside0.mk (HV24_0.out.below hb); replace BK1 := Aside0.mk (blk_below (g := gb1) (o := .cells #[.slice A0_0 l0_0.length c0_0] 47 (0, 0)) BK1.out hb); replace BK7 := Aside0.mk (blk_below (g := gb7) (o := .cells #[.slice Ao6_0 t6.length co6_0] 24 (0, 0)) BK7.out hb); replace HB := Aside0.mk (below_step HB.out hb); clear hb; (try clear hz24_1_0); (try clear hf24_1_0); (try clear hz24_7_0); (try clear hf24_7_0); have hz25_1_0 : w25.cell? ⟨gb1, 0, none⟩ = some (.slice A0_0 l0_0.length c0_0) := (blk_cell BK1.out 0).trans rfl; have hf25_1_0 := blk_frozen BK1.out 0; have hz25_7_0 : w25.cell? ⟨gb7, 0, none⟩ = some (.slice Ao6_0 t6.length co6_0) := (blk_cell BK7.out 0).trans rfl; have hf25_7_0 := blk_frozen BK7.out 0) | ((with_reducible refine gate_callee (f := 35) rfl ?_); refine gL_ (some 126) Try.func35 #[.slice Ao10_0 t9.length co10_0, .int .i64 1] ?_; refine (hd_heldIntS (fun k_ => lo10 ≤ k_ ∧ k_ < hi10) _ Ao10_0 t9.length co10_0 1 L20_0 HW20_0.out.now HH20.out.now HX20.out.1 HX20.out.2).mono ?_; rintro e w26 ⟨rfl, hd_⟩; refine ⟨_, rfl, ?_⟩; have hb := Drawn0.below hd_; replace HV3_0 := Aside0.mk (HV3_0.out.below hb); replace HV4_0 := Aside0.mk (HV4_0.out.below hb); replace HV5_0 := Aside0.mk (HV5_0.out.below hb); replace HV13_0 := Aside0.mk (HV13_0.out.below hb); replace HV15_0 := Aside0.mk (HV15_0.out.below hb); replace HW17_0 := Aside0.mk (HW17_0.out.below hb); replace HW18_0 := Aside0.mk (HW18_0.out.below hb); replace HH18 := Aside0.mk (HH18.out.below hb); replace HW20_0 := Aside0.mk (HW20_0.out.below hb); replace HH20 := Aside0.mk (HH20.out.below hb); replace HV22_0 := Aside0.mk (HV22_0.out.below hb); replace HV23_0 := Aside0.mk (HV23_0.out.below hb); replace HV24_0 := Aside0.mk (HV24_0.out.below hb); replace BK1 := Aside0.mk (blk_below (g := gb1) (o := .cells #[.slice A0_0 l0_0.length c0_0] 47 (0, 0)) BK1.out hb); replace BK7 := Aside0.mk (blk_below (g := gb7) (o := .cells #[.slice Ao6_0 t6.length co6_0] 24 (0, 0)) BK7.out hb); replace HB := Aside0.mk (below_step HB.out hb); clear hd_ hb; have hl26 : decide (1 + (L20_0.length : Int) < 0) = false := decide_eq_false (by have h1_ := HX20.out; omega); (try clear hz25_1_0); (try clear hf25_1_0); (try clear hz25_7_0); (try clear hf25_7_0); have hz26_1_0 : w26.cell? ⟨gb1, 0, none⟩ = some (.slice A0_0 l0_0.length c0_0) := (blk_cell BK1.out 0).trans rfl; have hf26_1_0 := blk_frozen BK1.out 0; have hz26_7_0 : w26.cell? ⟨gb7, 0, none⟩ = some (.slice Ao6_0 t6.length co6_0) := (blk_cell BK7.out 0).trans rfl; have hf26_7_0 := blk_frozen BK7.out 0))
 go_ret
 exact ⟨rfl, HB.out⟩
set_option maxHeartbeats 16000000 in
set_option maxRecDepth 100000 in
theorem laws_FnExactLoad.calls (k : Nat) (A0_0 : Option Addr) (c0_0 : Nat) (l0_0 : List (List (S139))) (A1 : Option Addr) (c1 : Nat) (l1 : List Int) (a2 : Int) (a3 : Int) (a4 : Bool) (r : Bool) (w : World) (hr0_0 : Kd.C (Kd.slice 139 k139) w A0_0 l0_0.length l0_0) (hc0_0 : l0_0.length ≤ c0_0) (hr1 : Kd.C (Kd.int .i64) w A1 l1.length l1) (hc1 : l1.length ≤ c1) (h : laws_FnExactLoad.f k l0_0 l1 a2 a3 a4 = some r) (hr : r = true) :
  Calls Try.prog 6 #[.agg #[.slice A0_0 l0_0.length c0_0], .slice A1 l1.length c1, .int .i64 a2, .int .i64 a3, .bool a4] w fun e w' => e = .returned (.bool r) ∧ Below w.heap.size w w' := by
 subst hr
 simp only [laws_FnExactLoad.f] at h
 by_cases hq0 : (l1.length : Int) > 1048576
 case pos => exact FnExactLoad_exit0 k A0_0 c0_0 l0_0 A1 c1 l1 a2 a3 a4  w hr0_0 hc0_0 hr1 hc1 hq0
 rw [if_neg hq0] at h
 obtain ⟨t1, A2, h⟩ := Option.bind_eq_some_iff.mp h
 by_cases hq1 : t1 < 0
 case pos => exact FnExactLoad_exit1 k A0_0 c0_0 l0_0 A1 c1 l1 a2 a3 a4 t1 w hr0_0 hc0_0 hr1 hc1 hq0 A2 hq1
 rw [if_neg hq1] at h
 obtain ⟨t2, A3, h⟩ := Option.bind_eq_some_iff.mp h
 obtain ⟨t3, A4, h⟩ := Option.bind_eq_some_iff.mp h
 obtain ⟨⟨t4, t5⟩, A5, h⟩ := Option.bind_eq_some_iff.mp h
 (try simp only [] at h)
 obtain ⟨t6, A6, h⟩ := Option.bind_eq_some_iff.mp h
 obtain ⟨t7, A9, h⟩ := Option.bind_eq_some_iff.mp h
 obtain ⟨⟨t8, t9⟩, A10, h⟩ := Option.bind_eq_some_iff.mp h
 (try simp only [] at h)
 by_cases ct8 : t8 = t4
 case neg => rw [if_neg ct8] at h; exact absurd (Option.some.inj h) (by decide)
 rw [if_pos ct8] at h
 replace ct8 := ct8.symm
 subst ct8
 obtain ⟨eA11, A11, h⟩ := Option.bind_eq_some_iff.mp h
 by_cases cA11 : eA11 = true
 case neg => rw [if_neg cA11] at h; exact absurd (Option.some.inj h) (by decide)
 rw [if_pos cA11] at h
 subst cA11
 obtain ⟨t10, A13, h⟩ := Option.bind_eq_some_iff.mp h
 obtain ⟨eA14, A14, h⟩ := Option.bind_eq_some_iff.mp h
 by_cases cA14 : eA14 = true
 case neg => rw [if_neg cA14] at h; exact absurd (Option.some.inj h) (by decide)
 rw [if_pos cA14] at h
 subst cA14
 obtain ⟨t11, A15, h⟩ := Option.bind_eq_some_iff.mp h
 obtain ⟨eA16, A16, h⟩ := Option.bind_eq_some_iff.mp h
 by_cases cA16 : eA16 = true
 case neg => rw [if_neg cA16] at h; exact absurd (Option.some.inj h) (by decide)
 rw [if_pos cA16] at h
 subst cA16
 by_cases hwt17 : wsum (wsum wt43) t6 ≤ 1152921504606846976
 case neg => rw [if_neg hwt17] at h; cases h
 rw [if_pos hwt17] at h
 by_cases hwt18 : wsum (fun _ => 1) t7 ≤ 1152921504606846976
 case neg => rw [if_neg hwt18] at h; cases h
 rw [if_pos hwt18] at h
 obtain ⟨eA19, A19, h⟩ := Option.bind_eq_some_iff.mp h
 by_cases cA19 : eA19 = true
 case neg => rw [if_neg cA19] at h; exact absurd (Option.some.inj h) (by decide)
 rw [if_pos cA19] at h
 subst cA19
 by_cases hwt20 : wsum (fun _ => 1) t9 ≤ 1152921504606846976
 case neg => rw [if_neg hwt20] at h; cases h
 rw [if_pos hwt20] at h
 obtain ⟨t12, A22, h⟩ := Option.bind_eq_some_iff.mp h
 obtain ⟨t13, A23, h⟩ := Option.bind_eq_some_iff.mp h
 obtain ⟨⟨t14, t15⟩, A24, h⟩ := Option.bind_eq_some_iff.mp h
 (try simp only [] at h)
 by_cases ct14 : t14 = t4
 case neg => rw [if_neg ct14] at h; exact absurd (Option.some.inj h) (by decide)
 rw [if_pos ct14] at h
 replace ct14 := ct14.symm
 subst ct14
 obtain ⟨eA25, A25, h⟩ := Option.bind_eq_some_iff.mp h
 by_cases cA25 : eA25 = true
 case neg => rw [if_neg cA25] at h; exact absurd (Option.some.inj h) (by decide)
 rw [if_pos cA25] at h
 subst cA25
 exact FnExactLoad_main k A0_0 c0_0 l0_0 A1 c1 l1 a2 a3 a4 t1 t2 t3 t4 t5 t6 t7 t9 t10 t11 t12 t13 t15 w hr0_0 hc0_0 hr1 hc1 hq0 A2 hq1 A3 A4 A5 A6 A9 A10 A11 A13 A14 A15 A16 hwt17 hwt18 A19 hwt20 A22 A23 A24 A25
end Go.Proofs.Ythbcnakmnbilhaa.PFnExactLoad
namespace Go.Proofs.Ythbcnakmnbilhaa.Lp
open Go.RowKit Go.Proofs.YthbcnakmnbilhaaW.PrintWords
set_option linter.unusedVariables false
set_option linter.unusedSimpArgs false
theorem wrapS {j n : Nat} (h : j < n) (hn : n ≤ 9223372036854775807) : wrap64 ((j : Int) + 1) = ((j + 1 : Nat) : Int) := by
  unfold wrap64; omega
theorem wrap_in {n : Int} (h0 : -9223372036854775808 ≤ n) (h1 : n ≤ 9223372036854775807) : wrap64 n = n := by
  unfold wrap64; omega
theorem wf_in {n : Int} (h : (Lit.int .i64 n).wf = true) : -9223372036854775808 ≤ n ∧ n ≤ 9223372036854775807 := by
  have h' : IntKind.min .i64 ≤ n ∧ n ≤ IntKind.max .i64 := by simpa [Lit.wf] using h
  exact h'
theorem rd_get {xs : List Int} {j : Nat} (h : j < xs.length) : rd xs (j : Int) = xs[j] := by simp [rd, List.getD_eq_getElem?_getD, h]
theorem count_up {ρ : Type} {L : Nat → Nat → Option ρ} {R : Nat → ρ} {n : Nat} (hend : Ev (L n) (R n)) (hstep : ∀ j, j < n → Ev (L (j + 1)) (R (j + 1)) → Ev (L j) (R j)) : ∀ j, j ≤ n → Ev (L j) (R j) := by
  have key : ∀ d j, j + d = n → Ev (L j) (R j) := by
    intro d
    induction d with
    | zero => intro j hj; obtain rfl : j = n := by omega
              exact hend
    | succ d ih => intro j hj; exact hstep j (by omega) (ih (j + 1) (by omega))
  exact fun j hj => key (n - j) j (by omega)
theorem Ev.one {α : Type} {g : Nat → Option α} {r : α} (h : ∀ k, g (k + 1) = some r) : Ev g r := ⟨1, fun k hk => by
  obtain ⟨m, rfl⟩ : ∃ m, k = m + 1 := ⟨k - 1, by omega⟩
  exact h m⟩
theorem Ev.all {α : Type} {g : Nat → Option α} {r : α} (h : ∀ k, g k = some r) : Ev g r := ⟨0, fun k _ => h k⟩
theorem fill_set {α : Type} (l : List α) (z : α) (j : Nat) (h : j < l.length) (x : α) (hx : x = l[j]) : (l.take j ++ List.replicate (l.length - j) z).set j x = l.take (j + 1) ++ List.replicate (l.length - (j + 1)) z := by
  subst hx
  rw [show l.length - j = (l.length - (j + 1)) + 1 by omega, List.replicate_succ, List.set_append_right _ _ (by simp; omega), List.length_take, show j - min j l.length = 0 by omega, List.set_cons_zero, List.take_succ_eq_append_getElem h, List.append_assoc]
  rfl
def agree {α : Type} [DecidableEq α] (a b : List α) (j : Nat) : Bool := decide (a.drop j = b.drop j)
theorem agree_step {α : Type} [DecidableEq α] {a b : List α} {j : Nat} (ha : j < a.length) (hb : j < b.length) (h : a[j] = b[j]) : agree a b j = agree a b (j + 1) := by
  unfold agree
  have e1 := List.drop_eq_getElem_cons ha
  have e2 := List.drop_eq_getElem_cons hb
  rw [decide_eq_decide, e1, e2, h, List.cons.injEq]
  exact ⟨fun c => c.2, fun c => ⟨rfl, c⟩⟩
theorem agree_no {α : Type} [DecidableEq α] {a b : List α} {j : Nat} (ha : j < a.length) (hb : j < b.length) (h : ¬ a[j] = b[j]) : agree a b j = false := by
  unfold agree
  have e1 := List.drop_eq_getElem_cons ha
  have e2 := List.drop_eq_getElem_cons hb
  rw [decide_eq_false_iff_not, e1, e2]
  intro c
  injection c with c1
  exact h c1
theorem agree_end {α : Type} [DecidableEq α] {a b : List α} (h : a.length = b.length) : agree a b a.length = true := by
  unfold agree
  simp [h]
def allFrom {α : Type} (p : α → Bool) (xs : List α) (j : Nat) : Bool := (xs.drop j).all p
theorem allFrom_step {α : Type} {p : α → Bool} {xs : List α} {j : Nat} (h : j < xs.length) : allFrom p xs j = (p xs[j] && allFrom p xs (j + 1)) := by
  unfold allFrom
  rw [List.drop_eq_getElem_cons h, List.all_cons]
theorem allFrom_end {α : Type} {p : α → Bool} (xs : List α) : allFrom p xs xs.length = true := by simp [allFrom]
theorem allFrom_zero {α : Type} (p : α → Bool) (xs : List α) : allFrom p xs 0 = xs.all p := rfl
def total {α : Type} (w : α → Nat) : List α → Nat
  | [] => 0
  | x :: xs => w x + total w xs
theorem total_drop {α : Type} (w : α → Nat) {xs : List α} {j : Nat} (h : j < xs.length) : total w (xs.drop j) = w xs[j] + total w (xs.drop (j + 1)) := by
  rw [List.drop_eq_getElem_cons h, total]
theorem total_mem {α : Type} (w : α → Nat) : ∀ {xs : List α} {x : α}, x ∈ xs → w x ≤ total w xs
  | y :: xs, x, h => by
    rcases List.mem_cons.1 h with rfl | h
    · rw [total]; omega
    · have := total_mem w h
      rw [total]; omega
def left? (t : Nat) (a : Int) : Int := if (t : Int) ≤ a then a - (t : Int) else -1
theorem sz_loop {α : Type} {L : Nat → Int → Nat → Option Int} (xs : List α) (w : α → Nat) (B : Int) (hend : ∀ a, Ev (L xs.length a) a)
    (hyes : ∀ j (h : j < xs.length) a, a ≤ B → (w xs[j] : Int) ≤ a → ∀ r, Ev (L (j + 1) (a - (w xs[j] : Int))) r → Ev (L j a) r)
    (hno : ∀ j (h : j < xs.length) a, 0 ≤ a → a ≤ B → a < (w xs[j] : Int) → Ev (L j a) (-1)) : ∀ a, 0 ≤ a → a ≤ B → Ev (L 0 a) (left? (total w xs) a) := by
  have key : ∀ d j, j + d = xs.length → ∀ a, 0 ≤ a → a ≤ B → Ev (L j a) (left? (total w (xs.drop j)) a) := by
    intro d
    induction d with
    | zero =>
      intro j hj a h0 hB
      obtain rfl : j = xs.length := by omega
      rw [List.drop_length, total, left?, if_pos (by omega), show a - ((0 : Nat) : Int) = a by omega]
      exact hend a
    | succ d ih =>
      intro j hj a h0 hB
      have h : j < xs.length := by omega
      rw [total_drop w h]
      by_cases hw : (w xs[j] : Int) ≤ a
      · refine hyes j h a hB hw _ ?_
        have := ih (j + 1) (by omega) (a - (w xs[j] : Int)) (by omega) (by omega)
        unfold left? at this ⊢
        by_cases c : (total w (xs.drop (j + 1)) : Int) ≤ a - (w xs[j] : Int)
        · rw [if_pos c] at this
          rw [if_pos (by omega), show a - ((w xs[j] + total w (xs.drop (j + 1)) : Nat) : Int) = a - (w xs[j] : Int) - (total w (xs.drop (j + 1)) : Int) by omega]
          exact this
        · rw [if_neg c] at this
          rw [if_neg (by omega)]
          exact this
      · rw [left?, if_neg (by omega)]
        exact hno j h a h0 hB (by omega)
  exact fun a h0 hB => by simpa using key xs.length 0 (by omega) a h0 hB
theorem left?_yes {t : Nat} {a : Int} (h : (t : Int) ≤ a) : left? t a = a - (t : Int) := if_pos h
theorem left?_no {t : Nat} {a : Int} (h : ¬ (t : Int) ≤ a) : left? t a = -1 := if_neg h
theorem left?_add {m t : Nat} {a : Int} (h : (m : Int) ≤ a) : left? t (a - (m : Int)) = left? (m + t) a := by
  unfold left?
  by_cases c : (t : Int) ≤ a - (m : Int)
  · rw [if_pos c, if_pos (by omega)]; omega
  · rw [if_neg c, if_neg (by omega)]
theorem Ev.val {α : Type} {g : Nat → Option α} {r r' : α} (h : r = r') (k : Ev g r) : Ev g r' := h ▸ k
theorem Ev.ite_pos {α : Type} {c : Prop} [Decidable c] {g f : Nat → Option α} {r : α} (h : c) (k : Ev g r) : Ev (fun n => if c then g n else f n) r := by simp only [if_pos h]; exact k
theorem Ev.ite_neg {α : Type} {c : Prop} [Decidable c] {g f : Nat → Option α} {r : α} (h : ¬ c) (k : Ev f r) : Ev (fun n => if c then g n else f n) r := by simp only [if_neg h]; exact k
theorem total_map {α β : Type} (w : α → Nat) (w' : β → Nat) (c : α → β) (h : ∀ x, w' (c x) = w x) : ∀ xs : List α, total w' (xs.map c) = total w xs
  | [] => rfl
  | x :: xs => by rw [List.map_cons, total, total, h, total_map w w' c h xs]
theorem to_loop {α β : Type} {L : Nat → List β → Nat → Option (List β)} (xs : List α) (c : α → β) (z : β) (hend : ∀ ys, ys.length = xs.length → Ev (L xs.length ys) ys)
    (hstep : ∀ j (h : j < xs.length) ys, ys.length = xs.length → ∀ r, Ev (L (j + 1) (ys.set j (c xs[j]))) r → Ev (L j ys) r) : Ev (L 0 (List.replicate xs.length z)) (xs.map c) := by
  have key : ∀ d j, j + d = xs.length → Ev (L j ((xs.map c).take j ++ List.replicate (xs.length - j) z)) (xs.map c) := by
    intro d
    induction d with
    | zero =>
      intro j hj
      obtain rfl : j = xs.length := by omega
      have := hend (xs.map c) (by simp)
      rw [Nat.sub_self, List.replicate_zero, List.append_nil, List.take_of_length_le (by simp)]
      exact this
    | succ d ih =>
      intro j hj
      have h : j < xs.length := by omega
      refine hstep j h _ (by simp; omega) _ ?_
      have h2 := fill_set (xs.map c) z j (by simpa using h) (c xs[j]) (by simp)
      rw [List.length_map] at h2
      rw [h2]
      exact ih (j + 1) (by omega)
  simpa using key xs.length 0 (by omega)
theorem yes_loop {ρ : Type} {L : Nat → Nat → Option ρ} (n : Nat) (r : ρ) (hend : Ev (L n) r) (hstep : ∀ j, j < n → Ev (L (j + 1)) r → Ev (L j) r) : Ev (L 0) r :=
  count_up (R := fun _ => r) hend hstep 0 (Nat.zero_le _)
theorem all_loop {α : Type} {L : Nat → Nat → Option Bool} (xs : List α) (p : α → Bool) {b : Bool} (hend : Ev (L xs.length) b) (hyes : ∀ j (h : j < xs.length), p xs[j] = true → ∀ r, Ev (L (j + 1)) r → Ev (L j) r) (hno : ∀ j (h : j < xs.length), p xs[j] = false → Ev (L j) false) : Ev (L 0) (xs.all p && b) := by
  have key : ∀ d j, j + d = xs.length → Ev (L j) (allFrom p xs j && b) := by
    intro d
    induction d with
    | zero =>
      intro j hj
      obtain rfl : j = xs.length := by omega
      rw [allFrom_end, Bool.true_and]
      exact hend
    | succ d ih =>
      intro j hj
      have h : j < xs.length := by omega
      rw [allFrom_step h]
      cases e : p xs[j] with
      | true => rw [Bool.true_and]; exact hyes j h e _ (ih (j + 1) (by omega))
      | false => rw [Bool.false_and, Bool.false_and]; exact hno j h e
  have := key xs.length 0 (by omega)
  rwa [allFrom_zero] at this
theorem yes_all {α ρ : Type} {L : Nat → Nat → Option ρ} {r : ρ} (xs : List α) (p : α → Bool) (h : xs.all p = true) (hend : Ev (L xs.length) r) (hyes : ∀ j (h : j < xs.length), p xs[j] = true → Ev (L (j + 1)) r → Ev (L j) r) : Ev (L 0) r :=
  yes_loop xs.length r hend (fun j hj ih => hyes j hj (List.all_eq_true.1 h _ (List.getElem_mem hj)) ih)
theorem no_all {α ρ : Type} {L : Nat → Nat → Option ρ} {r : ρ} (xs : List α) (p : α → Bool) (h : xs.all p = false) (hyes : ∀ j (h : j < xs.length), p xs[j] = true → Ev (L (j + 1)) r → Ev (L j) r) (hno : ∀ j (h : j < xs.length), p xs[j] = false → Ev (L j) r) : Ev (L 0) r := by
  have key : ∀ d j, j + d = xs.length → allFrom p xs j = false → Ev (L j) r := by
    intro d
    induction d with
    | zero =>
      intro j hj hf
      obtain rfl : j = xs.length := by omega
      rw [allFrom_end] at hf
      cases hf
    | succ d ih =>
      intro j hj hf
      have hlt : j < xs.length := by omega
      rw [allFrom_step hlt] at hf
      cases e : p xs[j] with
      | true => rw [e, Bool.true_and] at hf; exact hyes j hlt e (ih (j + 1) (by omega) hf)
      | false => exact hno j hlt e
  exact key xs.length 0 (by omega) (by rw [allFrom_zero]; exact h)
end Go.Proofs.Ythbcnakmnbilhaa.Lp
