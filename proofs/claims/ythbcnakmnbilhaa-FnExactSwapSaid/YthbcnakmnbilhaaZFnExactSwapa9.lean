/- A part of the proof that the law FnExactSwap holds for every input: the words, functions and walks that its row needs, without a condition of their own. -/
import Derived.Test.YthbcnakmnbilhaaZFnExactSwapa2
import Derived.Test.YthbcnakmnbilhaaZFnExactSwapa8
import Derived.Test.YthbcnakmnbilhaaZFnExactSwaps
namespace Go.Proofs.Ythbcnakmnbilhaa.PFnExactSwap
open Go.RowKit Go.Proofs.YthbcnakmnbilhaaW.PrintWords Go.Proofs.YthbcnakmnbilhaaW.PrintLast Go.Proofs.YthbcnakmnbilhaaW.PrintMore
attribute [local go_sem] max2_int min2_int max_two min_two max_three min_three max_four min_four   -- for this text's walks alone
set_option linter.unusedVariables false
set_option linter.unusedSimpArgs false
mutual
def spec_MemoryOk.l0 : Nat → Int → List (List (S43)) → Option (Bool)
  | 0, _, _ => none
  | k + 1, x3, x265000 => if x3 < 24 then (if 0 ≤ x3 then (if x3 < (x265000.length : Int) then ((spec_l1In.f ((rd_L3 x265000 x3).length : Int) 1 4000).bind fun t266 => (if t266 = true then (spec_MemoryOk.l1 k x3 0 x265000) else (some false))) else (none)) else (none)) else (some true)
def spec_MemoryOk.l1 : Nat → Int → Int → List (List (S43)) → Option (Bool)
  | 0, _, _, _ => none
  | k + 1, x3, x4, x265000 => if 0 ≤ x3 then (if x3 < (x265000.length : Int) then (if x4 < ((rd_L3 x265000 x3).length : Int) then (if 0 ≤ x4 then ((spec_ViewOk.f k x265000 ((rd_T43 (rd_L3 x265000 x3) x4).f1)).bind fun t270 => (if t270 = true then (spec_MemoryOk.l1 k x3 (wrap64 (x4 + 1)) x265000) else (some false))) else (none)) else (spec_MemoryOk.l0 k (wrap64 (x3 + 1)) x265000)) else (none)) else (none)
end
def spec_MemoryOk.f (k : Nat) (l0_0 : List (List (S43))) : Option (Bool) := if (l0_0.length : Int) = 24 then (spec_MemoryOk.l0 k 0 l0_0) else (some false)
def spec_MemoryOk.T11 : Bool × List (List Nat × List Nat) := (true, [([], []), ([], []), ([1], [1]), ([], []), ([2, 3], [2, 3]), ([4], [4]), ([], []), ([5, 6], [5, 6]), ([7], [7]), ([8], [8]), ([0, 9], [0, 9]), ([10], [10])])
def spec_MemoryOk.B11 : List Nat := [0, 0, 2, 0, 14, 30, 0, 126, 254, 510, 1023, 2047]
theorem spec_MemoryOk.tab11 : rtab .any (opsOf Try.f27 11) = spec_MemoryOk.T11 := by kernel_rfl
theorem spec_MemoryOk.bits11 : waitsOk spec_MemoryOk.T11.2 spec_MemoryOk.B11 = true := by kernel_rfl
set_option maxHeartbeats 8000000 in
set_option maxRecDepth 100000 in
theorem spec_MemoryOk.calls (k : Nat) (A0_0 : Option Addr) (c0_0 : Nat) (l0_0 : List (List (S43))) (r : Bool) (w : World) (hr0_0 : Kd.C (Kd.slice 43 k43) w A0_0 l0_0.length l0_0) (hc0_0 : l0_0.length ≤ c0_0) (h : spec_MemoryOk.f k l0_0 = some r) :
  Calls Try.prog 27 #[.agg #[.slice A0_0 l0_0.length c0_0]] w fun e w' => e = .returned (.bool r) ∧ Below w.heap.size w w' := by
 have hu24 := Try.underlying24
 have HR0_0 := aM_ hr0_0
 have HC0_0 := aM_ hc0_0
 clear hr0_0 hc0_0
 have HB := aM_ (Below.refl w.heap.size w)
 have H : (if (l0_0.length : Int) = 24 then (spec_MemoryOk.l0 k 0 l0_0) else (some false)) = some r := h
 clear h
 by_cases c2 : (l0_0.length : Int) = 24
 ·rw [if_pos c2] at H
  have c2b0 : ((l0_0.length : Int) == 24) = true := beq_iff_eq.mpr c2
  have c2b1 : ((l0_0.length : Int) != 24) = false := bne_eq_false_iff_eq.mpr c2
  clear c2
  have H' := aM_ H
  clear H
  go_enter Try.func27, Try.ntmps27
  go_wp2_with (first | ((with_reducible refine gate_dst (N := 1) rfl ?_); refine bX_ 1 (cs := #[.slice A0_0 l0_0.length c0_0]) (t := 24) ?_; intro gb264 hg w3 hbox hb; have n0 := aM_ (sT_ HB.out hb); have n1 := aM_ (hbox); have n2 := aM_ (sZ_ hg HB.out); have n3 := aM_ (sZ_ hg HB.out); clear HB; have HB := n0; have BK264 := n1; have GW264 := n2; have GE264 := n3; clear n0 n1 n2 n3; clear hb hbox hg; have hcz4_0 : w3.cell? ⟨gb264, 0, none⟩ = some (.slice A0_0 l0_0.length c0_0) := (blk_cell BK264.out 0).trans rfl; have hfz4_0 := blk_frozen BK264.out 0))
  go_loopg [3] k (fun kq v3 w' => ∃ (x3_1 : Int), v3 = .int .i64 x3_1 ∧ Aside0 (spec_MemoryOk.l0 kq x3_1 l0_0 = some r) ∧ Aside0 (kq ≤ k) ∧ Aside0 (w'.heap[gb264]? = some (.cells #[(.slice A0_0 l0_0.length c0_0)] 24 (0, 0))) ∧ Aside0 (Below w.heap.size w w'))
  case atStart => exact ⟨(0), (by first | rfl | (simp; done) | (simp [*]; done)), H', ⟨Nat.le_refl _⟩, ⟨rW_ BK264.out⟩, ⟨gW_ HB.out⟩⟩
  case round =>
   clear H'
   try clear c2
   try clear c2b0
   try clear c2b1
   try clear p2
   try clear hcz4_0 hfz4_0
   obtain ⟨x3_1, rfl, HA, HK1, BK264, HB⟩ := hrel
   cases gk with
   | zero => exact absurd HA.out (by simp [spec_MemoryOk.l0])
   | succ k1 =>
    have H := HA.out
    clear HA
    simp only [spec_MemoryOk.l0] at H
    by_cases c5 : x3_1 < 24
    ·rw [if_pos c5] at H
     have c5b0 : decide (x3_1 < 24) = true := decide_eq_true c5
     clear c5
     by_cases c6 : 0 ≤ x3_1
     ·rw [if_pos c6] at H
      have c6b0 : decide (0 ≤ x3_1) = true := decide_eq_true c6
      clear c6
      by_cases c7 : x3_1 < (l0_0.length : Int)
      ·rw [if_pos c7] at H
       have c7b0 : decide (x3_1 < (l0_0.length : Int)) = true := decide_eq_true c7
       clear c7
       replace H := Option.bind_eq_some_iff.mp H
       obtain ⟨t266, A80, H⟩ := H
       replace H : (if t266 = true then (spec_MemoryOk.l1 k1 x3_1 0 l0_0) else (some false)) = some r := H
       have A8 := aM_ A80
       clear A80
       by_cases c9 : t266 = true
       ·subst c9
        have H1 : (spec_MemoryOk.l1 k1 x3_1 0 l0_0) = some r := by rw [if_pos rfl] at H; exact H
        clear H
        have H := H1
        clear H1
        have H' := aM_ H
        clear H
        have hcz10_0 : wr.cell? ⟨gb264, 0, none⟩ = some (.slice A0_0 l0_0.length c0_0) := (blk_cell BK264.out 0).trans rfl
        have hfz10_0 := blk_frozen BK264.out 0
        have p265 : 0 ≤ (x3_1 : Int) := of_decide_eq_true (by first | (with_reducible assumption) | assumption)
        have q265 : x3_1 < (l0_0.length : Int) := of_decide_eq_true (by first | (with_reducible assumption) | assumption)
        obtain ⟨ad265, A265_0, c265_0, e265, hx265_0, hl265_0, hi265_0⟩ := at_L3 HR0_0.out x3_1 p265 q265
        cases e265
        replace hx265_0 := cB_ HB.out hx265_0
        have HR265_0 := aM_ hi265_0
        have HC265_0 := aM_ hl265_0
        clear hi265_0 hl265_0
        replace p265 := eq_true p265
        replace q265 := eq_true q265
        go_wp2_with (first | ((with_reducible refine gate_callee (f := 69) rfl ?_); refine gL_ (some 19) Try.func69 #[.int .i64 ((rd_L3 l0_0 x3_1).length : Int), .int .i64 1, .int .i64 4000] ?_; (with_reducible refine (spec_l1In.calls ((rd_L3 l0_0 x3_1).length : Int) 1 4000 true _ A8.out).mono ?_); rintro e w' ⟨rfl, ⟨nd, rfl⟩⟩; refine ⟨_, rfl, ?_⟩))
        go_loopg [4] k1 (fun kq v4 w' => ∃ (x4_2 : Int), v4 = .int .i64 x4_2 ∧ Aside0 (spec_MemoryOk.l1 kq x3_1 x4_2 l0_0 = some r) ∧ Aside0 (kq ≤ k1) ∧ Aside0 (w'.heap[gb264]? = some (.cells #[(.slice (some ad265) l0_0.length c0_0)] 24 (0, 0))) ∧ Aside0 (Below w.heap.size w w'))
        case atStart => exact ⟨(0), (by first | rfl | (simp; done) | (simp [*]; done)), H', ⟨Nat.le_refl _⟩, ⟨rW_ BK264.out⟩, ⟨gW_ HB.out⟩⟩
        case round =>
         clear H'
         try clear c2
         try clear c2b0
         try clear c2b1
         try clear p2
         try clear q2
         try clear hx2
         try clear c5
         try clear c5b0
         try clear c6
         try clear c6b0
         try clear c7
         try clear c7b0
         try clear c9
         try clear hcz10_0 hfz10_0
         try clear hcz4_0 hfz4_0
         try clear hx265_0
         try clear p2
         try clear p265
         try clear q265
         obtain ⟨x4_2, rfl, HA, HK2, BK264, HB⟩ := hrel
         cases gk with
         | zero => exact absurd HA.out (by simp [spec_MemoryOk.l1])
         | succ k2 =>
          have H := HA.out
          clear HA
          simp only [spec_MemoryOk.l1] at H
          by_cases c11 : 0 ≤ x3_1
          ·rw [if_pos c11] at H
           have c11b0 : decide (0 ≤ x3_1) = true := decide_eq_true c11
           clear c11
           by_cases c12 : x3_1 < (l0_0.length : Int)
           ·rw [if_pos c12] at H
            have c12b0 : decide (x3_1 < (l0_0.length : Int)) = true := decide_eq_true c12
            clear c12
            by_cases c13 : x4_2 < ((rd_L3 l0_0 x3_1).length : Int)
            ·rw [if_pos c13] at H
             have c13b0 : decide (x4_2 < ((rd_L3 l0_0 x3_1).length : Int)) = true := decide_eq_true c13
             clear c13
             by_cases c14 : 0 ≤ x4_2
             ·rw [if_pos c14] at H
              have c14b0 : decide (0 ≤ x4_2) = true := decide_eq_true c14
              clear c14
              replace H := Option.bind_eq_some_iff.mp H
              obtain ⟨t270, A150, H⟩ := H
              replace H : (if t270 = true then (spec_MemoryOk.l1 k2 x3_1 (wrap64 (x4_2 + 1)) l0_0) else (some false)) = some r := H
              have A15 := aM_ A150
              clear A150
              by_cases c16 : t270 = true
              ·subst c16
               have H1 : (spec_MemoryOk.l1 k2 x3_1 (wrap64 (x4_2 + 1)) l0_0) = some r := by rw [if_pos rfl] at H; exact H
               clear H
               have H := H1
               clear H1
               have H' := aM_ H
               clear H
               have hcz17_0 : wr.cell? ⟨gb264, 0, none⟩ = some (.slice (some ad265) l0_0.length c0_0) := (blk_cell BK264.out 0).trans rfl
               have hfz17_0 := blk_frozen BK264.out 0
               have p267 : 0 ≤ (x3_1 : Int) := of_decide_eq_true (by first | (with_reducible assumption) | assumption)
               have q267 : x3_1 < (l0_0.length : Int) := of_decide_eq_true (by first | (with_reducible assumption) | assumption)
               obtain ⟨ad267, A267_0, c267_0, e267, hx267_0, hl267_0, hi267_0⟩ := at_L3 HR0_0.out x3_1 p267 q267
               obtain rfl : ad265 = ad267 := (by injection e267)
               replace hx267_0 := cB_ HB.out hx267_0
               have HR267_0 := aM_ hi267_0
               have HC267_0 := aM_ hl267_0
               clear hi267_0 hl267_0
               replace p267 := eq_true p267
               replace q267 := eq_true q267
               try go_wp2
               have n0 := aM_ (blk_drew BK264.out)
               have n1 := aM_ (below_drew1 HB.out)
               clear BK264
               clear HB
               have BK264 := n0
               have HB := n1
               clear n0 n1
               have p268 : 0 ≤ (x3_1 : Int) := of_decide_eq_true (by first | (with_reducible assumption) | assumption)
               have q268 : x3_1 < (l0_0.length : Int) := of_decide_eq_true (by first | (with_reducible assumption) | assumption)
               obtain ⟨ad268, A268_0, c268_0, e268, hx268_0, hl268_0, hi268_0⟩ := at_L3 HR0_0.out x3_1 p268 q268
               have hw268_0 := hx268_0
               obtain rfl : ad265 = ad268 := (by injection e268)
               replace hx268_0 := cB_ HB.out hx268_0
               have HR268_0 := aM_ hi268_0
               have HC268_0 := aM_ hl268_0
               clear hi268_0 hl268_0
               replace p268 := eq_true p268
               replace q268 := eq_true q268
               have p269 : 0 ≤ (x4_2 : Int) := of_decide_eq_true (by first | (with_reducible assumption) | assumption)
               have q269 : x4_2 < ((rd_L3 l0_0 x3_1).length : Int) := of_decide_eq_true (by first | (with_reducible assumption) | assumption)
               obtain ⟨ad269, A269_1, c269_1, e269, hx269_0, hx269_1, hl269_1, hi269_1⟩ := at_T43 HR268_0.out x4_2 p269 q269
               have hw269_1 := hx269_1
               have hw269_0 := hx269_0
               cases e269
               replace hx269_0 := cB_ HB.out hx269_0
               replace hx269_1 := cB_ HB.out hx269_1
               have HR269_1 := aM_ hi269_1
               have HC269_1 := aM_ hl269_1
               clear hi269_1 hl269_1
               replace p269 := eq_true p269
               replace q269 := eq_true q269
               refine start_ (n := 12) (S := fun w' => w'.cell? ⟨gb264, 0, none⟩ = some (.slice (some ad265) l0_0.length c0_0) ∧ w'.cell? (ad265.add (x3_1).toNat) = some (.slice (some ad269) (rd_L3 l0_0 x3_1).length c268_0) ∧ w'.cell? (ad269.add ((x4_2).toNat * 2)) = some (.int .i64 ((rd_T43 (rd_L3 l0_0 x3_1) x4_2).f0)) ∧ w'.cell? ⟨(ad269.add ((x4_2).toNat * 2)).block, (ad269.add ((x4_2).toNat * 2)).off + 1, none⟩ = some (.slice A269_1 ((rd_T43 (rd_L3 l0_0 x3_1) x4_2).f1).length c269_1)) (ds := []) (mk_ 12 0) (by kernel_rfl) rfl rfl ⟨(blk_cell BK264.out 0).trans rfl, (cB_ HB.out hw268_0 :), (cB_ HB.out hw269_0 :), (cB_ HB.out hw269_1 :)⟩ (fun hHeld => ?_); refine with_tabW spec_MemoryOk.tab11 spec_MemoryOk.bits11 (fun HT_ HW_ => ?_)
               generalize wr.drew = w18 at BK264 HB HR268_0 HR269_1 hx268_0 hx269_0 hx269_1 hHeld ⊢
               refine pU_ 1 (some 32) (mk_ 12 2) ?_
               refine pU_ 3 (some 34) (mk_ 12 10) ?_
               refine pU_ 6 (some 37) (mk_ 12 74) ?_
               refine tK4_ 0 (some 31) (mk_ 12 75) ?_
               refine tK4_ 2 (some 33) (mk_ 12 79) ?_
               refine pU_ 4 (some 35) (mk_ 12 95) ?_
               refine tK4_ 5 (some 36) (mk_ 12 127) ?_
               refine pU_ 7 (some 38) (mk_ 12 255) ?_
               refine pU_ 8 (some 39) (mk_ 12 511) ?_
               refine tK4_ 9 (some 40) (mk_ 12 1023) ?_
               refine oN_ 10 (some 41) (mk_ 12 2047) (fun K hK => ?_)
               refine gO_ Try.func29 #[.agg #[.slice (some ad265) l0_0.length c0_0], .slice A269_1 ((rd_T43 (rd_L3 l0_0 x3_1) x4_2).f1).length c269_1] ?_
               with_reducible refine (spec_ViewOk.calls k2 _ _ l0_0 _ _ ((rd_T43 (rd_L3 l0_0 x3_1) x4_2).f1) true _ ?side1 ?side2 ?side3 ?side4 A15.out).mono ?_
               (case side1 => exact cS_ (Kd.C_below HR0_0.out HB.out))
               (case side2 => exact HC0_0.out)
               (case side3 => exact cS_ (Kd.C_below HR269_1.out HB.out))
               (case side4 => exact HC269_1.out)
               rintro e w19 ⟨rfl, hb⟩
               refine ⟨_, rfl, ?_⟩
               have n0 := aM_ (nB_ BK264.out hb)
               have n1 := aM_ (sT_ HB.out hb)
               clear BK264
               clear HB
               have BK264 := n0
               have HB := n1
               clear n0 n1
               (try clear hb)
               (try clear hb2)
               (try clear hk)
               (try clear hi)
               refine hK.out _ _ ⟨(blk_cell BK264.out 0).trans rfl, (cB_ HB.out hw268_0 :), (cB_ HB.out hw269_0 :), (cB_ HB.out hw269_1 :)⟩ (fun hHeld => ?_)
               clear hK K
               refine norm_ (a' := ?_) ?_ ?_
               rotate_left
               ·show Act.put _ (some 41) _ = _
                simp only [pt_, pn_, sI_, s0_, s1_, i64_w, i32_w]
                rfl
               refine pU_ 11 (some 42) (mk_ 12 4095) ?_
               refine done_ (done_of HT_.out (by kernel_rfl)) ?_
               try go_wp2
               go_roundg k2
               case measure => have := HK1.out; have := HK2.out; omega
               case rel => exact ⟨(wrap64 (x4_2 + 1)), (by first | rfl | (simp; done) | (simp [*]; done)), H', ⟨by have := HK1.out; have := HK2.out; omega⟩, ⟨rW_ BK264.out⟩, ⟨gW_ HB.out⟩⟩
              ·replace c16 := Bool.eq_false_iff.mpr c16
               subst c16
               have H1 : (some false) = some r := by rw [if_neg (show ¬ (false = true) by decide)] at H; exact H
               clear H
               have H := H1
               clear H1
               obtain rfl := Option.some.inj H
               have hcz20_0 : wr.cell? ⟨gb264, 0, none⟩ = some (.slice (some ad265) l0_0.length c0_0) := (blk_cell BK264.out 0).trans rfl
               have hfz20_0 := blk_frozen BK264.out 0
               have p267 : 0 ≤ (x3_1 : Int) := of_decide_eq_true (by first | (with_reducible assumption) | assumption)
               have q267 : x3_1 < (l0_0.length : Int) := of_decide_eq_true (by first | (with_reducible assumption) | assumption)
               obtain ⟨ad267, A267_0, c267_0, e267, hx267_0, hl267_0, hi267_0⟩ := at_L3 HR0_0.out x3_1 p267 q267
               obtain rfl : ad265 = ad267 := (by injection e267)
               replace hx267_0 := cB_ HB.out hx267_0
               have HR267_0 := aM_ hi267_0
               have HC267_0 := aM_ hl267_0
               clear hi267_0 hl267_0
               replace p267 := eq_true p267
               replace q267 := eq_true q267
               try go_wp2
               have n0 := aM_ (blk_drew BK264.out)
               have n1 := aM_ (below_drew1 HB.out)
               clear BK264
               clear HB
               have BK264 := n0
               have HB := n1
               clear n0 n1
               have p268 : 0 ≤ (x3_1 : Int) := of_decide_eq_true (by first | (with_reducible assumption) | assumption)
               have q268 : x3_1 < (l0_0.length : Int) := of_decide_eq_true (by first | (with_reducible assumption) | assumption)
               obtain ⟨ad268, A268_0, c268_0, e268, hx268_0, hl268_0, hi268_0⟩ := at_L3 HR0_0.out x3_1 p268 q268
               have hw268_0 := hx268_0
               obtain rfl : ad265 = ad268 := (by injection e268)
               replace hx268_0 := cB_ HB.out hx268_0
               have HR268_0 := aM_ hi268_0
               have HC268_0 := aM_ hl268_0
               clear hi268_0 hl268_0
               replace p268 := eq_true p268
               replace q268 := eq_true q268
               have p269 : 0 ≤ (x4_2 : Int) := of_decide_eq_true (by first | (with_reducible assumption) | assumption)
               have q269 : x4_2 < ((rd_L3 l0_0 x3_1).length : Int) := of_decide_eq_true (by first | (with_reducible assumption) | assumption)
               obtain ⟨ad269, A269_1, c269_1, e269, hx269_0, hx269_1, hl269_1, hi269_1⟩ := at_T43 HR268_0.out x4_2 p269 q269
               have hw269_1 := hx269_1
               have hw269_0 := hx269_0
               cases e269
               replace hx269_0 := cB_ HB.out hx269_0
               replace hx269_1 := cB_ HB.out hx269_1
               have HR269_1 := aM_ hi269_1
               have HC269_1 := aM_ hl269_1
               clear hi269_1 hl269_1
               replace p269 := eq_true p269
               replace q269 := eq_true q269
               refine start_ (n := 12) (S := fun w' => w'.cell? ⟨gb264, 0, none⟩ = some (.slice (some ad265) l0_0.length c0_0) ∧ w'.cell? (ad265.add (x3_1).toNat) = some (.slice (some ad269) (rd_L3 l0_0 x3_1).length c268_0) ∧ w'.cell? (ad269.add ((x4_2).toNat * 2)) = some (.int .i64 ((rd_T43 (rd_L3 l0_0 x3_1) x4_2).f0)) ∧ w'.cell? ⟨(ad269.add ((x4_2).toNat * 2)).block, (ad269.add ((x4_2).toNat * 2)).off + 1, none⟩ = some (.slice A269_1 ((rd_T43 (rd_L3 l0_0 x3_1) x4_2).f1).length c269_1)) (ds := []) (mk_ 12 0) (by kernel_rfl) rfl rfl ⟨(blk_cell BK264.out 0).trans rfl, (cB_ HB.out hw268_0 :), (cB_ HB.out hw269_0 :), (cB_ HB.out hw269_1 :)⟩ (fun hHeld => ?_); refine with_tabW spec_MemoryOk.tab11 spec_MemoryOk.bits11 (fun HT_ HW_ => ?_)
               generalize wr.drew = w21 at BK264 HB HR268_0 HR269_1 hx268_0 hx269_0 hx269_1 hHeld ⊢
               refine pU_ 1 (some 32) (mk_ 12 2) ?_
               refine pU_ 3 (some 34) (mk_ 12 10) ?_
               refine pU_ 6 (some 37) (mk_ 12 74) ?_
               refine tK4_ 0 (some 31) (mk_ 12 75) ?_
               refine tK4_ 2 (some 33) (mk_ 12 79) ?_
               refine pU_ 4 (some 35) (mk_ 12 95) ?_
               refine tK4_ 5 (some 36) (mk_ 12 127) ?_
               refine pU_ 7 (some 38) (mk_ 12 255) ?_
               refine pU_ 8 (some 39) (mk_ 12 511) ?_
               refine tK4_ 9 (some 40) (mk_ 12 1023) ?_
               refine oN_ 10 (some 41) (mk_ 12 2047) (fun K hK => ?_)
               refine gO_ Try.func29 #[.agg #[.slice (some ad265) l0_0.length c0_0], .slice A269_1 ((rd_T43 (rd_L3 l0_0 x3_1) x4_2).f1).length c269_1] ?_
               with_reducible refine (spec_ViewOk.calls k2 _ _ l0_0 _ _ ((rd_T43 (rd_L3 l0_0 x3_1) x4_2).f1) false _ ?side1 ?side2 ?side3 ?side4 A15.out).mono ?_
               (case side1 => exact cS_ (Kd.C_below HR0_0.out HB.out))
               (case side2 => exact HC0_0.out)
               (case side3 => exact cS_ (Kd.C_below HR269_1.out HB.out))
               (case side4 => exact HC269_1.out)
               rintro e w22 ⟨rfl, hb⟩
               refine ⟨_, rfl, ?_⟩
               have n0 := aM_ (nB_ BK264.out hb)
               have n1 := aM_ (sT_ HB.out hb)
               clear BK264
               clear HB
               have BK264 := n0
               have HB := n1
               clear n0 n1
               (try clear hb)
               (try clear hb2)
               (try clear hk)
               (try clear hi)
               refine hK.out _ _ ⟨(blk_cell BK264.out 0).trans rfl, (cB_ HB.out hw268_0 :), (cB_ HB.out hw269_0 :), (cB_ HB.out hw269_1 :)⟩ (fun hHeld => ?_)
               clear hK K
               refine norm_ (a' := ?_) ?_ ?_
               rotate_left
               ·show Act.put _ (some 41) _ = _
                simp only [pt_, pn_, sI_, s0_, s1_, i64_w, i32_w]
                rfl
               refine pU_ 11 (some 42) (mk_ 12 4095) ?_
               refine done_ (done_of HT_.out (by kernel_rfl)) ?_
               try go_wp2
               go_ret
               exact fI_ HB.out
             ·rw [if_neg c14] at H
              exact absurd H (by simp)
            ·rw [if_neg c13] at H
             have c13b0 : decide (x4_2 < ((rd_L3 l0_0 x3_1).length : Int)) = false := decide_eq_false c13
             clear c13
             have H' := aM_ H
             clear H
             have hcz23_0 : wr.cell? ⟨gb264, 0, none⟩ = some (.slice (some ad265) l0_0.length c0_0) := (blk_cell BK264.out 0).trans rfl
             have hfz23_0 := blk_frozen BK264.out 0
             have p267 : 0 ≤ (x3_1 : Int) := of_decide_eq_true (by first | (with_reducible assumption) | assumption)
             have q267 : x3_1 < (l0_0.length : Int) := of_decide_eq_true (by first | (with_reducible assumption) | assumption)
             obtain ⟨ad267, A267_0, c267_0, e267, hx267_0, hl267_0, hi267_0⟩ := at_L3 HR0_0.out x3_1 p267 q267
             obtain rfl : ad265 = ad267 := (by injection e267)
             replace hx267_0 := cB_ HB.out hx267_0
             have HR267_0 := aM_ hi267_0
             have HC267_0 := aM_ hl267_0
             clear hi267_0 hl267_0
             replace p267 := eq_true p267
             replace q267 := eq_true q267
             go_wp2
             go_roundg k2
             case measure => have := HK1.out; have := HK2.out; omega
             case rel => exact ⟨(wrap64 (x3_1 + 1)), (by first | rfl | (simp; done) | (simp [*]; done)), H', ⟨by have := HK1.out; have := HK2.out; omega⟩, ⟨rW_ BK264.out⟩, ⟨gW_ HB.out⟩⟩
           ·rw [if_neg c12] at H
            exact absurd H (by simp)
          ·rw [if_neg c11] at H
           exact absurd H (by simp)
       ·replace c9 := Bool.eq_false_iff.mpr c9
        subst c9
        have H1 : (some false) = some r := by rw [if_neg (show ¬ (false = true) by decide)] at H; exact H
        clear H
        have H := H1
        clear H1
        obtain rfl := Option.some.inj H
        have hcz24_0 : wr.cell? ⟨gb264, 0, none⟩ = some (.slice A0_0 l0_0.length c0_0) := (blk_cell BK264.out 0).trans rfl
        have hfz24_0 := blk_frozen BK264.out 0
        have p265 : 0 ≤ (x3_1 : Int) := of_decide_eq_true (by first | (with_reducible assumption) | assumption)
        have q265 : x3_1 < (l0_0.length : Int) := of_decide_eq_true (by first | (with_reducible assumption) | assumption)
        obtain ⟨ad265, A265_0, c265_0, e265, hx265_0, hl265_0, hi265_0⟩ := at_L3 HR0_0.out x3_1 p265 q265
        cases e265
        replace hx265_0 := cB_ HB.out hx265_0
        have HR265_0 := aM_ hi265_0
        have HC265_0 := aM_ hl265_0
        clear hi265_0 hl265_0
        replace p265 := eq_true p265
        replace q265 := eq_true q265
        go_wp2_with (first | ((with_reducible refine gate_callee (f := 69) rfl ?_); refine gL_ (some 19) Try.func69 #[.int .i64 ((rd_L3 l0_0 x3_1).length : Int), .int .i64 1, .int .i64 4000] ?_; (with_reducible refine (spec_l1In.calls ((rd_L3 l0_0 x3_1).length : Int) 1 4000 false _ A8.out).mono ?_); rintro e w' ⟨rfl, ⟨nd, rfl⟩⟩; refine ⟨_, rfl, ?_⟩))
        go_ret
        exact fI_ HB.out
      ·rw [if_neg c7] at H
       exact absurd H (by simp)
     ·rw [if_neg c6] at H
      exact absurd H (by simp)
    ·rw [if_neg c5] at H
     have c5b0 : decide (x3_1 < 24) = false := decide_eq_false c5
     clear c5
     obtain rfl := Option.some.inj H
     go_wp2
     go_ret
     exact fI_ HB.out
 ·rw [if_neg c2] at H
  have c2b0 : ((l0_0.length : Int) == 24) = false := beq_eq_false_iff_ne.mpr c2
  have c2b1 : ((l0_0.length : Int) != 24) = true := bne_iff_ne.mpr c2
  obtain rfl := Option.some.inj H
  go_enter Try.func27, Try.ntmps27
  go_wp2_with (first | ((with_reducible refine gate_dst (N := 1) rfl ?_); refine bX_ 1 (cs := #[.slice A0_0 l0_0.length c0_0]) (t := 24) ?_; intro gb264 hg w25 hbox hb; have n0 := aM_ (sT_ HB.out hb); have n1 := aM_ (hbox); have n2 := aM_ (sZ_ hg HB.out); have n3 := aM_ (sZ_ hg HB.out); clear HB; have HB := n0; have BK264 := n1; have GW264 := n2; have GE264 := n3; clear n0 n1 n2 n3; clear hb hbox hg; have hcz26_0 : w25.cell? ⟨gb264, 0, none⟩ = some (.slice A0_0 l0_0.length c0_0) := (blk_cell BK264.out 0).trans rfl; have hfz26_0 := blk_frozen BK264.out 0))
  go_ret
  exact fI_ HB.out
def spec_l6Right.f (k : Nat) (l0_0 : List (List (S43))) (l1 : List Int) (a2 : Int) : Option (Bool) := (spec_MemoryOk.f k l0_0).bind fun t272 => (if t272 = true then ((spec_ViewOk.f k l0_0 l1).bind fun t273 => (if t273 = true then ((spec_l1In.f a2 0 23).bind fun t274 => (some t274)) else (some false))) else (some false))
set_option maxHeartbeats 8000000 in
set_option maxRecDepth 100000 in
theorem spec_l6Right.calls (k : Nat) (A0_0 : Option Addr) (c0_0 : Nat) (l0_0 : List (List (S43))) (A1 : Option Addr) (c1 : Nat) (l1 : List Int) (a2 : Int) (r : Bool) (w : World) (hr0_0 : Kd.C (Kd.slice 43 k43) w A0_0 l0_0.length l0_0) (hc0_0 : l0_0.length ≤ c0_0) (hr1 : Kd.C (Kd.int .i64) w A1 l1.length l1) (hc1 : l1.length ≤ c1) (h : spec_l6Right.f k l0_0 l1 a2 = some r) :
  Calls Try.prog 61 #[.agg #[.slice A0_0 l0_0.length c0_0], .slice A1 l1.length c1, .int .i64 a2] w fun e w' => e = .returned (.bool r) ∧ Below w.heap.size w w' := by
 have hu24 := Try.underlying24
 have HR0_0 := aM_ hr0_0
 have HC0_0 := aM_ hc0_0
 clear hr0_0 hc0_0
 have HR1 := aM_ hr1
 have HC1 := aM_ hc1
 clear hr1 hc1
 have HB := aM_ (Below.refl w.heap.size w)
 have H : ((spec_MemoryOk.f k l0_0).bind fun t272 => (if t272 = true then ((spec_ViewOk.f k l0_0 l1).bind fun t273 => (if t273 = true then ((spec_l1In.f a2 0 23).bind fun t274 => (some t274)) else (some false))) else (some false))) = some r := h
 clear h
 replace H := Option.bind_eq_some_iff.mp H
 obtain ⟨t272, A40, H⟩ := H
 replace H : (if t272 = true then ((spec_ViewOk.f k l0_0 l1).bind fun t273 => (if t273 = true then ((spec_l1In.f a2 0 23).bind fun t274 => (some t274)) else (some false))) else (some false)) = some r := H
 have A4 := aM_ A40
 clear A40
 by_cases c5 : t272 = true
 ·subst c5
  have H1 : ((spec_ViewOk.f k l0_0 l1).bind fun t273 => (if t273 = true then ((spec_l1In.f a2 0 23).bind fun t274 => (some t274)) else (some false))) = some r := by rw [if_pos rfl] at H; exact H
  clear H
  have H := H1
  clear H1
  replace H := Option.bind_eq_some_iff.mp H
  obtain ⟨t273, A60, H⟩ := H
  replace H : (if t273 = true then ((spec_l1In.f a2 0 23).bind fun t274 => (some t274)) else (some false)) = some r := H
  have A6 := aM_ A60
  clear A60
  by_cases c7 : t273 = true
  ·subst c7
   have H1 : ((spec_l1In.f a2 0 23).bind fun t274 => (some t274)) = some r := by rw [if_pos rfl] at H; exact H
   clear H
   have H := H1
   clear H1
   replace H := Option.bind_eq_some_iff.mp H
   obtain ⟨t274, A80, H⟩ := H
   replace H : (some t274) = some r := H
   have A8 := aM_ A80
   clear A80
   obtain rfl := Option.some.inj H
   go_enter Try.func61, Try.ntmps61
   go_wp2_with (first | ((with_reducible refine gate_dst (N := 3) rfl ?_); refine bX_ 3 (cs := #[.slice A0_0 l0_0.length c0_0]) (t := 24) ?_; intro gb271 hg w9 hbox hb; have n0 := aM_ (sT_ HB.out hb); have n1 := aM_ (hbox); have n2 := aM_ (sZ_ hg HB.out); have n3 := aM_ (sZ_ hg HB.out); clear HB; have HB := n0; have BK271 := n1; have GW271 := n2; have GE271 := n3; clear n0 n1 n2 n3; clear hb hbox hg; have hcz10_0 : w9.cell? ⟨gb271, 0, none⟩ = some (.slice A0_0 l0_0.length c0_0) := (blk_cell BK271.out 0).trans rfl; have hfz10_0 := blk_frozen BK271.out 0) | ((with_reducible refine gate_callee (f := 27) rfl ?_); refine gL_ (some 8) Try.func27 #[.agg #[.slice A0_0 l0_0.length c0_0]] ?_; (with_reducible refine (spec_MemoryOk.calls k _ _ l0_0 true _ ?side1 ?side2 A4.out).mono ?_); (case side1 => exact cS_ (Kd.C_below HR0_0.out HB.out)); (case side2 => exact HC0_0.out); rintro e w11 ⟨rfl, hb⟩; refine ⟨_, rfl, ?_⟩; have n0 := aM_ (nB_ BK271.out hb); have n1 := aM_ (sT_ HB.out hb); clear BK271; clear HB; have BK271 := n0; have HB := n1; clear n0 n1; have hcz12_0 : w11.cell? ⟨gb271, 0, none⟩ = some (.slice A0_0 l0_0.length c0_0) := (blk_cell BK271.out 0).trans rfl; have hfz12_0 := blk_frozen BK271.out 0) | (go_at_call 29; (with_reducible refine (spec_ViewOk.calls k _ _ l0_0 _ _ l1 true _ ?side1 ?side2 ?side3 ?side4 A6.out).mono ?_); (case side1 => exact cS_ (Kd.C_below HR0_0.out HB.out)); (case side2 => exact HC0_0.out); (case side3 => exact cS_ (Kd.C_below HR1.out HB.out)); (case side4 => exact HC1.out); rintro e w13 ⟨rfl, hb⟩; have n0 := aM_ (nB_ BK271.out hb); have n1 := aM_ (sT_ HB.out hb); clear BK271; clear HB; have BK271 := n0; have HB := n1; clear n0 n1) | (go_at_call 69; (with_reducible refine (spec_l1In.calls a2 0 23 t274 _ A8.out).mono ?_); rintro e w' ⟨rfl, ⟨nd, rfl⟩⟩))
   go_ret
   exact fI_ HB.out
  ·replace c7 := Bool.eq_false_iff.mpr c7
   subst c7
   have H1 : (some false) = some r := by rw [if_neg (show ¬ (false = true) by decide)] at H; exact H
   clear H
   have H := H1
   clear H1
   obtain rfl := Option.some.inj H
   go_enter Try.func61, Try.ntmps61
   go_wp2_with (first | ((with_reducible refine gate_dst (N := 3) rfl ?_); refine bX_ 3 (cs := #[.slice A0_0 l0_0.length c0_0]) (t := 24) ?_; intro gb271 hg w14 hbox hb; have n0 := aM_ (sT_ HB.out hb); have n1 := aM_ (hbox); have n2 := aM_ (sZ_ hg HB.out); have n3 := aM_ (sZ_ hg HB.out); clear HB; have HB := n0; have BK271 := n1; have GW271 := n2; have GE271 := n3; clear n0 n1 n2 n3; clear hb hbox hg; have hcz15_0 : w14.cell? ⟨gb271, 0, none⟩ = some (.slice A0_0 l0_0.length c0_0) := (blk_cell BK271.out 0).trans rfl; have hfz15_0 := blk_frozen BK271.out 0) | ((with_reducible refine gate_callee (f := 27) rfl ?_); refine gL_ (some 8) Try.func27 #[.agg #[.slice A0_0 l0_0.length c0_0]] ?_; (with_reducible refine (spec_MemoryOk.calls k _ _ l0_0 true _ ?side1 ?side2 A4.out).mono ?_); (case side1 => exact cS_ (Kd.C_below HR0_0.out HB.out)); (case side2 => exact HC0_0.out); rintro e w16 ⟨rfl, hb⟩; refine ⟨_, rfl, ?_⟩; have n0 := aM_ (nB_ BK271.out hb); have n1 := aM_ (sT_ HB.out hb); clear BK271; clear HB; have BK271 := n0; have HB := n1; clear n0 n1; have hcz17_0 : w16.cell? ⟨gb271, 0, none⟩ = some (.slice A0_0 l0_0.length c0_0) := (blk_cell BK271.out 0).trans rfl; have hfz17_0 := blk_frozen BK271.out 0) | (go_at_call 29; (with_reducible refine (spec_ViewOk.calls k _ _ l0_0 _ _ l1 false _ ?side1 ?side2 ?side3 ?side4 A6.out).mono ?_); (case side1 => exact cS_ (Kd.C_below HR0_0.out HB.out)); (case side2 => exact HC0_0.out); (case side3 => exact cS_ (Kd.C_below HR1.out HB.out)); (case side4 => exact HC1.out); rintro e w18 ⟨rfl, hb⟩; have n0 := aM_ (nB_ BK271.out hb); have n1 := aM_ (sT_ HB.out hb); clear BK271; clear HB; have BK271 := n0; have HB := n1; clear n0 n1))
   go_ret
   exact fI_ HB.out
 ·replace c5 := Bool.eq_false_iff.mpr c5
  subst c5
  have H1 : (some false) = some r := by rw [if_neg (show ¬ (false = true) by decide)] at H; exact H
  clear H
  have H := H1
  clear H1
  obtain rfl := Option.some.inj H
  go_enter Try.func61, Try.ntmps61
  go_wp2_with (first | ((with_reducible refine gate_dst (N := 3) rfl ?_); refine bX_ 3 (cs := #[.slice A0_0 l0_0.length c0_0]) (t := 24) ?_; intro gb271 hg w19 hbox hb; have n0 := aM_ (sT_ HB.out hb); have n1 := aM_ (hbox); have n2 := aM_ (sZ_ hg HB.out); have n3 := aM_ (sZ_ hg HB.out); clear HB; have HB := n0; have BK271 := n1; have GW271 := n2; have GE271 := n3; clear n0 n1 n2 n3; clear hb hbox hg; have hcz20_0 : w19.cell? ⟨gb271, 0, none⟩ = some (.slice A0_0 l0_0.length c0_0) := (blk_cell BK271.out 0).trans rfl; have hfz20_0 := blk_frozen BK271.out 0) | ((with_reducible refine gate_callee (f := 27) rfl ?_); refine gL_ (some 8) Try.func27 #[.agg #[.slice A0_0 l0_0.length c0_0]] ?_; (with_reducible refine (spec_MemoryOk.calls k _ _ l0_0 false _ ?side1 ?side2 A4.out).mono ?_); (case side1 => exact cS_ (Kd.C_below HR0_0.out HB.out)); (case side2 => exact HC0_0.out); rintro e w21 ⟨rfl, hb⟩; refine ⟨_, rfl, ?_⟩; have n0 := aM_ (nB_ BK271.out hb); have n1 := aM_ (sT_ HB.out hb); clear BK271; clear HB; have BK271 := n0; have HB := n1; clear n0 n1))
  go_ret
  exact fI_ HB.out
def spec_l1Max.f (a0 : Int) (a1 : Int) : Option (Int) := if a0 > a1 then (some a0) else (some a1)
set_option maxHeartbeats 8000000 in
set_option maxRecDepth 100000 in
theorem spec_l1Max.calls (a0 : Int) (a1 : Int) (r : Int) (w : World) (h : spec_l1Max.f a0 a1 = some r) :
  Calls Try.prog 95 #[.int .i64 a0, .int .i64 a1] w fun e w' => e = .returned (.int .i64 r) ∧ Drawn0 w w' := by
 have H : (if a0 > a1 then (some a0) else (some a1)) = some r := h
 clear h
 by_cases c3 : a0 > a1
 ·rw [if_pos c3] at H
  have c3b0 : decide (a1 < a0) = true := decide_eq_true c3
  clear c3
  obtain rfl := Option.some.inj H
  go_enter Try.func95, Try.ntmps95
  go_wp2
  go_ret
  exact ⟨by first | rfl | (simp; done) | (simp [*]; done), by repeat (first | exact Drawn0.refl _ | apply Drawn0.step)⟩
 ·rw [if_neg c3] at H
  have c3b0 : decide (a1 < a0) = false := decide_eq_false c3
  clear c3
  obtain rfl := Option.some.inj H
  go_enter Try.func95, Try.ntmps95
  go_wp2
  go_ret
  exact ⟨by first | rfl | (simp; done) | (simp [*]; done), by repeat (first | exact Drawn0.refl _ | apply Drawn0.step)⟩
end Go.Proofs.Ythbcnakmnbilhaa.PFnExactSwap
