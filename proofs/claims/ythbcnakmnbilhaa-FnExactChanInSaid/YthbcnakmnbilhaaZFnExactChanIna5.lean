/- A part of the proof that the law FnExactChanIn holds for every input: the words, functions and walks that its row needs, without a condition of their own. -/
import Derived.Test.YthbcnakmnbilhaaZFnExactChanIna2
import Derived.Test.YthbcnakmnbilhaaZFnExactChanIna4
import Derived.Test.YthbcnakmnbilhaaZFnExactChanIns
namespace Go.Proofs.Ythbcnakmnbilhaa.PFnExactChanIn
open Go.RowKit Go.Proofs.YthbcnakmnbilhaaW.PrintWords Go.Proofs.YthbcnakmnbilhaaW.PrintLast Go.Proofs.YthbcnakmnbilhaaW.PrintMore
attribute [local go_sem] max2_int min2_int max_two min_two max_three min_three max_four min_four   -- for this text's walks alone
set_option linter.unusedVariables false
set_option linter.unusedSimpArgs false
mutual
def spec_MemoryOk.l0 : Nat → Int → List (List (S43)) → Option (Bool)
  | 0, _, _ => none
  | k + 1, x3, x165000 => if x3 < 24 then (if 0 ≤ x3 then (if x3 < (x165000.length : Int) then ((spec_l1In.f ((rd_L3 x165000 x3).length : Int) 1 4000).bind fun t166 => (if t166 = true then (spec_MemoryOk.l1 k x3 0 x165000) else (some false))) else (none)) else (none)) else (some true)
def spec_MemoryOk.l1 : Nat → Int → Int → List (List (S43)) → Option (Bool)
  | 0, _, _, _ => none
  | k + 1, x3, x4, x165000 => if 0 ≤ x3 then (if x3 < (x165000.length : Int) then (if x4 < ((rd_L3 x165000 x3).length : Int) then (if 0 ≤ x4 then ((spec_ViewOk.f k x165000 ((rd_T43 (rd_L3 x165000 x3) x4).f1)).bind fun t170 => (if t170 = true then (spec_MemoryOk.l1 k x3 (wrap64 (x4 + 1)) x165000) else (some false))) else (none)) else (spec_MemoryOk.l0 k (wrap64 (x3 + 1)) x165000)) else (none)) else (none)
end
def spec_MemoryOk.f (k : Nat) (l0_0 : List (List (S43))) : Option (Bool) := if (l0_0.length : Int) = 24 then (spec_MemoryOk.l0 k 0 l0_0) else (some false)
def spec_MemoryOk.T11 : Bool × List (List Nat × List Nat) := (true, [([], []), ([], []), ([1], [1]), ([], []), ([2, 3], [2, 3]), ([4], [4]), ([], []), ([5, 6], [5, 6]), ([7], [7]), ([8], [8]), ([0, 9], [0, 9]), ([10], [10])])
def spec_MemoryOk.B11 : List Nat := [0, 0, 2, 0, 14, 30, 0, 126, 254, 510, 1023, 2047]
theorem spec_MemoryOk.tab11 : rtab .any (opsOf Try.f27 11) = spec_MemoryOk.T11 := by kernel_rfl
theorem spec_MemoryOk.bits11 : waitsOk spec_MemoryOk.T11.2 spec_MemoryOk.B11 = true := by kernel_rfl
set_option maxHeartbeats 8000000 in
set_option maxRecDepth 100000 in
theorem spec_MemoryOk.calls (k : Nat) (A0_0 : Option Addr) (c0_0 : Nat) (l0_0 : List (List (S43))) (r : Bool) (w : World) (hr0_0 : Kd.C (Kd.slice 43 k43) w A0_0 l0_0.length l0_0) (hc0_0 : l0_0.length ≤ c0_0) (h : spec_MemoryOk.f k l0_0 = some r) :
  Calls Try.prog 27 #[.agg #[.slice A0_0 l0_0.length c0_0]] w fun e w' => e = .returned (.bool r) ∧ Below w.heap.size w w' := by
 have hu24 := Try.underlying24
 have HR0_0 := aM_ hr0_0
 have HC0_0 := aM_ hc0_0
 clear hr0_0 hc0_0
 have HB := aM_ (Below.refl w.heap.size w)
 have H : (if (l0_0.length : Int) = 24 then (spec_MemoryOk.l0 k 0 l0_0) else (some false)) = some r := h
 clear h
 by_cases c2 : (l0_0.length : Int) = 24
 ·rw [if_pos c2] at H
  have c2b0 : ((l0_0.length : Int) == 24) = true := beq_iff_eq.mpr c2
  have c2b1 : ((l0_0.length : Int) != 24) = false := bne_eq_false_iff_eq.mpr c2
  clear c2
  have H' := aM_ H
  clear H
  go_enter Try.func27, Try.ntmps27
  go_wp2_with (first | ((with_reducible refine gate_dst (N := 1) rfl ?_); refine bX_ 1 (cs := #[.slice A0_0 l0_0.length c0_0]) (t := 24) ?_; intro gb164 hg w3 hbox hb; have n0 := aM_ (sT_ HB.out hb); have n1 := aM_ (hbox); have n2 := aM_ (sZ_ hg HB.out); have n3 := aM_ (sZ_ hg HB.out); clear HB; have HB := n0; have BK164 := n1; have GW164 := n2; have GE164 := n3; clear n0 n1 n2 n3; clear hb hbox hg; have hcz4_0 : w3.cell? ⟨gb164, 0, none⟩ = some (.slice A0_0 l0_0.length c0_0) := (blk_cell BK164.out 0).trans rfl; have hfz4_0 := blk_frozen BK164.out 0))
  go_loopg [3] k (fun kq v3 w' => ∃ (x3_1 : Int), v3 = .int .i64 x3_1 ∧ Aside0 (spec_MemoryOk.l0 kq x3_1 l0_0 = some r) ∧ Aside0 (kq ≤ k) ∧ Aside0 (w'.heap[gb164]? = some (.cells #[(.slice A0_0 l0_0.length c0_0)] 24 (0, 0))) ∧ Aside0 (Below w.heap.size w w'))
  case atStart => exact ⟨(0), (by first | rfl | (simp; done) | (simp [*]; done)), H', ⟨Nat.le_refl _⟩, ⟨rW_ BK164.out⟩, ⟨gW_ HB.out⟩⟩
  case round =>
   clear H'
   try clear c2
   try clear c2b0
   try clear c2b1
   try clear p2
   try clear hcz4_0 hfz4_0
   obtain ⟨x3_1, rfl, HA, HK1, BK164, HB⟩ := hrel
   cases gk with
   | zero => exact absurd HA.out (by simp [spec_MemoryOk.l0])
   | succ k1 =>
    have H := HA.out
    clear HA
    simp only [spec_MemoryOk.l0] at H
    by_cases c5 : x3_1 < 24
    ·rw [if_pos c5] at H
     have c5b0 : decide (x3_1 < 24) = true := decide_eq_true c5
     clear c5
     by_cases c6 : 0 ≤ x3_1
     ·rw [if_pos c6] at H
      have c6b0 : decide (0 ≤ x3_1) = true := decide_eq_true c6
      clear c6
      by_cases c7 : x3_1 < (l0_0.length : Int)
      ·rw [if_pos c7] at H
       have c7b0 : decide (x3_1 < (l0_0.length : Int)) = true := decide_eq_true c7
       clear c7
       replace H := Option.bind_eq_some_iff.mp H
       obtain ⟨t166, A80, H⟩ := H
       replace H : (if t166 = true then (spec_MemoryOk.l1 k1 x3_1 0 l0_0) else (some false)) = some r := H
       have A8 := aM_ A80
       clear A80
       by_cases c9 : t166 = true
       ·subst c9
        have H1 : (spec_MemoryOk.l1 k1 x3_1 0 l0_0) = some r := by rw [if_pos rfl] at H; exact H
        clear H
        have H := H1
        clear H1
        have H' := aM_ H
        clear H
        have hcz10_0 : wr.cell? ⟨gb164, 0, none⟩ = some (.slice A0_0 l0_0.length c0_0) := (blk_cell BK164.out 0).trans rfl
        have hfz10_0 := blk_frozen BK164.out 0
        have p165 : 0 ≤ (x3_1 : Int) := of_decide_eq_true (by first | (with_reducible assumption) | assumption)
        have q165 : x3_1 < (l0_0.length : Int) := of_decide_eq_true (by first | (with_reducible assumption) | assumption)
        obtain ⟨ad165, A165_0, c165_0, e165, hx165_0, hl165_0, hi165_0⟩ := at_L3 HR0_0.out x3_1 p165 q165
        cases e165
        replace hx165_0 := cB_ HB.out hx165_0
        have HR165_0 := aM_ hi165_0
        have HC165_0 := aM_ hl165_0
        clear hi165_0 hl165_0
        replace p165 := eq_true p165
        replace q165 := eq_true q165
        go_wp2_with (first | ((with_reducible refine gate_callee (f := 69) rfl ?_); refine gL_ (some 19) Try.func69 #[.int .i64 ((rd_L3 l0_0 x3_1).length : Int), .int .i64 1, .int .i64 4000] ?_; (with_reducible refine (spec_l1In.calls ((rd_L3 l0_0 x3_1).length : Int) 1 4000 true _ A8.out).mono ?_); rintro e w' ⟨rfl, ⟨nd, rfl⟩⟩; refine ⟨_, rfl, ?_⟩))
        go_loopg [4] k1 (fun kq v4 w' => ∃ (x4_2 : Int), v4 = .int .i64 x4_2 ∧ Aside0 (spec_MemoryOk.l1 kq x3_1 x4_2 l0_0 = some r) ∧ Aside0 (kq ≤ k1) ∧ Aside0 (w'.heap[gb164]? = some (.cells #[(.slice (some ad165) l0_0.length c0_0)] 24 (0, 0))) ∧ Aside0 (Below w.heap.size w w'))
        case atStart => exact ⟨(0), (by first | rfl | (simp; done) | (simp [*]; done)), H', ⟨Nat.le_refl _⟩, ⟨rW_ BK164.out⟩, ⟨gW_ HB.out⟩⟩
        case round =>
         clear H'
         try clear c1
         try clear p1
         try clear q1
         try clear hx1
         try clear c2
         try clear c2b0
         try clear c2b1
         try clear p2
         try clear c5
         try clear c5b0
         try clear c6
         try clear c6b0
         try clear c7
         try clear c7b0
         try clear c9
         try clear hcz10_0 hfz10_0
         try clear hcz4_0 hfz4_0
         try clear hx165_0
         try clear p165
         try clear p2
         try clear q165
         obtain ⟨x4_2, rfl, HA, HK2, BK164, HB⟩ := hrel
         cases gk with
         | zero => exact absurd HA.out (by simp [spec_MemoryOk.l1])
         | succ k2 =>
          have H := HA.out
          clear HA
          simp only [spec_MemoryOk.l1] at H
          by_cases c11 : 0 ≤ x3_1
          ·rw [if_pos c11] at H
           have c11b0 : decide (0 ≤ x3_1) = true := decide_eq_true c11
           clear c11
           by_cases c12 : x3_1 < (l0_0.length : Int)
           ·rw [if_pos c12] at H
            have c12b0 : decide (x3_1 < (l0_0.length : Int)) = true := decide_eq_true c12
            clear c12
            by_cases c13 : x4_2 < ((rd_L3 l0_0 x3_1).length : Int)
            ·rw [if_pos c13] at H
             have c13b0 : decide (x4_2 < ((rd_L3 l0_0 x3_1).length : Int)) = true := decide_eq_true c13
             clear c13
             by_cases c14 : 0 ≤ x4_2
             ·rw [if_pos c14] at H
              have c14b0 : decide (0 ≤ x4_2) = true := decide_eq_true c14
              clear c14
              replace H := Option.bind_eq_some_iff.mp H
              obtain ⟨t170, A150, H⟩ := H
              replace H : (if t170 = true then (spec_MemoryOk.l1 k2 x3_1 (wrap64 (x4_2 + 1)) l0_0) else (some false)) = some r := H
              have A15 := aM_ A150
              clear A150
              by_cases c16 : t170 = true
              ·subst c16
               have H1 : (spec_MemoryOk.l1 k2 x3_1 (wrap64 (x4_2 + 1)) l0_0) = some r := by rw [if_pos rfl] at H; exact H
               clear H
               have H := H1
               clear H1
               have H' := aM_ H
               clear H
               have hcz17_0 : wr.cell? ⟨gb164, 0, none⟩ = some (.slice (some ad165) l0_0.length c0_0) := (blk_cell BK164.out 0).trans rfl
               have hfz17_0 := blk_frozen BK164.out 0
               have p167 : 0 ≤ (x3_1 : Int) := of_decide_eq_true (by first | (with_reducible assumption) | assumption)
               have q167 : x3_1 < (l0_0.length : Int) := of_decide_eq_true (by first | (with_reducible assumption) | assumption)
               obtain ⟨ad167, A167_0, c167_0, e167, hx167_0, hl167_0, hi167_0⟩ := at_L3 HR0_0.out x3_1 p167 q167
               obtain rfl : ad165 = ad167 := (by injection e167)
               replace hx167_0 := cB_ HB.out hx167_0
               have HR167_0 := aM_ hi167_0
               have HC167_0 := aM_ hl167_0
               clear hi167_0 hl167_0
               replace p167 := eq_true p167
               replace q167 := eq_true q167
               try go_wp2
               have n0 := aM_ (blk_drew BK164.out)
               have n1 := aM_ (below_drew1 HB.out)
               clear BK164
               clear HB
               have BK164 := n0
               have HB := n1
               clear n0 n1
               have p168 : 0 ≤ (x3_1 : Int) := of_decide_eq_true (by first | (with_reducible assumption) | assumption)
               have q168 : x3_1 < (l0_0.length : Int) := of_decide_eq_true (by first | (with_reducible assumption) | assumption)
               obtain ⟨ad168, A168_0, c168_0, e168, hx168_0, hl168_0, hi168_0⟩ := at_L3 HR0_0.out x3_1 p168 q168
               have hw168_0 := hx168_0
               obtain rfl : ad165 = ad168 := (by injection e168)
               replace hx168_0 := cB_ HB.out hx168_0
               have HR168_0 := aM_ hi168_0
               have HC168_0 := aM_ hl168_0
               clear hi168_0 hl168_0
               replace p168 := eq_true p168
               replace q168 := eq_true q168
               have p169 : 0 ≤ (x4_2 : Int) := of_decide_eq_true (by first | (with_reducible assumption) | assumption)
               have q169 : x4_2 < ((rd_L3 l0_0 x3_1).length : Int) := of_decide_eq_true (by first | (with_reducible assumption) | assumption)
               obtain ⟨ad169, A169_1, c169_1, e169, hx169_0, hx169_1, hl169_1, hi169_1⟩ := at_T43 HR168_0.out x4_2 p169 q169
               have hw169_1 := hx169_1
               have hw169_0 := hx169_0
               cases e169
               replace hx169_0 := cB_ HB.out hx169_0
               replace hx169_1 := cB_ HB.out hx169_1
               have HR169_1 := aM_ hi169_1
               have HC169_1 := aM_ hl169_1
               clear hi169_1 hl169_1
               replace p169 := eq_true p169
               replace q169 := eq_true q169
               refine start_ (n := 12) (S := fun w' => w'.cell? ⟨gb164, 0, none⟩ = some (.slice (some ad165) l0_0.length c0_0) ∧ w'.cell? (ad165.add (x3_1).toNat) = some (.slice (some ad169) (rd_L3 l0_0 x3_1).length c168_0) ∧ w'.cell? (ad169.add ((x4_2).toNat * 2)) = some (.int .i64 ((rd_T43 (rd_L3 l0_0 x3_1) x4_2).f0)) ∧ w'.cell? ⟨(ad169.add ((x4_2).toNat * 2)).block, (ad169.add ((x4_2).toNat * 2)).off + 1, none⟩ = some (.slice A169_1 ((rd_T43 (rd_L3 l0_0 x3_1) x4_2).f1).length c169_1)) (ds := []) (mk_ 12 0) (by kernel_rfl) rfl rfl ⟨(blk_cell BK164.out 0).trans rfl, (cB_ HB.out hw168_0 :), (cB_ HB.out hw169_0 :), (cB_ HB.out hw169_1 :)⟩ (fun hHeld => ?_); refine with_tabW spec_MemoryOk.tab11 spec_MemoryOk.bits11 (fun HT_ HW_ => ?_)
               generalize wr.drew = w18 at BK164 HB HR168_0 HR169_1 hx168_0 hx169_0 hx169_1 hHeld ⊢
               refine pU_ 1 (some 32) (mk_ 12 2) ?_
               refine pU_ 3 (some 34) (mk_ 12 10) ?_
               refine pU_ 6 (some 37) (mk_ 12 74) ?_
               refine tK4_ 0 (some 31) (mk_ 12 75) ?_
               refine tK4_ 2 (some 33) (mk_ 12 79) ?_
               refine pU_ 4 (some 35) (mk_ 12 95) ?_
               refine tK4_ 5 (some 36) (mk_ 12 127) ?_
               refine pU_ 7 (some 38) (mk_ 12 255) ?_
               refine pU_ 8 (some 39) (mk_ 12 511) ?_
               refine tK4_ 9 (some 40) (mk_ 12 1023) ?_
               refine oN_ 10 (some 41) (mk_ 12 2047) (fun K hK => ?_)
               refine gO_ Try.func29 #[.agg #[.slice (some ad165) l0_0.length c0_0], .slice A169_1 ((rd_T43 (rd_L3 l0_0 x3_1) x4_2).f1).length c169_1] ?_
               with_reducible refine (spec_ViewOk.calls k2 _ _ l0_0 _ _ ((rd_T43 (rd_L3 l0_0 x3_1) x4_2).f1) true _ ?side1 ?side2 ?side3 ?side4 A15.out).mono ?_
               (case side1 => exact cS_ (Kd.C_below HR0_0.out HB.out))
               (case side2 => exact HC0_0.out)
               (case side3 => exact cS_ (Kd.C_below HR169_1.out HB.out))
               (case side4 => exact HC169_1.out)
               rintro e w19 ⟨rfl, hb⟩
               refine ⟨_, rfl, ?_⟩
               have n0 := aM_ (nB_ BK164.out hb)
               have n1 := aM_ (sT_ HB.out hb)
               clear BK164
               clear HB
               have BK164 := n0
               have HB := n1
               clear n0 n1
               (try clear hb)
               (try clear hb2)
               (try clear hk)
               (try clear hi)
               refine hK.out _ _ ⟨(blk_cell BK164.out 0).trans rfl, (cB_ HB.out hw168_0 :), (cB_ HB.out hw169_0 :), (cB_ HB.out hw169_1 :)⟩ (fun hHeld => ?_)
               clear hK K
               refine norm_ (a' := ?_) ?_ ?_
               rotate_left
               ·show Act.put _ (some 41) _ = _
                simp only [pt_, pn_, sI_, s0_, s1_, i64_w, i32_w]
                rfl
               refine pU_ 11 (some 42) (mk_ 12 4095) ?_
               refine done_ (done_of HT_.out (by kernel_rfl)) ?_
               try go_wp2
               go_roundg k2
               case measure => have := HK1.out; have := HK2.out; omega
               case rel => exact ⟨(wrap64 (x4_2 + 1)), (by first | rfl | (simp; done) | (simp [*]; done)), H', ⟨by have := HK1.out; have := HK2.out; omega⟩, ⟨rW_ BK164.out⟩, ⟨gW_ HB.out⟩⟩
              ·replace c16 := Bool.eq_false_iff.mpr c16
               subst c16
               have H1 : (some false) = some r := by rw [if_neg (show ¬ (false = true) by decide)] at H; exact H
               clear H
               have H := H1
               clear H1
               obtain rfl := Option.some.inj H
               have hcz20_0 : wr.cell? ⟨gb164, 0, none⟩ = some (.slice (some ad165) l0_0.length c0_0) := (blk_cell BK164.out 0).trans rfl
               have hfz20_0 := blk_frozen BK164.out 0
               have p167 : 0 ≤ (x3_1 : Int) := of_decide_eq_true (by first | (with_reducible assumption) | assumption)
               have q167 : x3_1 < (l0_0.length : Int) := of_decide_eq_true (by first | (with_reducible assumption) | assumption)
               obtain ⟨ad167, A167_0, c167_0, e167, hx167_0, hl167_0, hi167_0⟩ := at_L3 HR0_0.out x3_1 p167 q167
               obtain rfl : ad165 = ad167 := (by injection e167)
               replace hx167_0 := cB_ HB.out hx167_0
               have HR167_0 := aM_ hi167_0
               have HC167_0 := aM_ hl167_0
               clear hi167_0 hl167_0
               replace p167 := eq_true p167
               replace q167 := eq_true q167
               try go_wp2
               have n0 := aM_ (blk_drew BK164.out)
               have n1 := aM_ (below_drew1 HB.out)
               clear BK164
               clear HB
               have BK164 := n0
               have HB := n1
               clear n0 n1
               have p168 : 0 ≤ (x3_1 : Int) := of_decide_eq_true (by first | (with_reducible assumption) | assumption)
               have q168 : x3_1 < (l0_0.length : Int) := of_decide_eq_true (by first | (with_reducible assumption) | assumption)
               obtain ⟨ad168, A168_0, c168_0, e168, hx168_0, hl168_0, hi168_0⟩ := at_L3 HR0_0.out x3_1 p168 q168
               have hw168_0 := hx168_0
               obtain rfl : ad165 = ad168 := (by injection e168)
               replace hx168_0 := cB_ HB.out hx168_0
               have HR168_0 := aM_ hi168_0
               have HC168_0 := aM_ hl168_0
               clear hi168_0 hl168_0
               replace p168 := eq_true p168
               replace q168 := eq_true q168
               have p169 : 0 ≤ (x4_2 : Int) := of_decide_eq_true (by first | (with_reducible assumption) | assumption)
               have q169 : x4_2 < ((rd_L3 l0_0 x3_1).length : Int) := of_decide_eq_true (by first | (with_reducible assumption) | assumption)
               obtain ⟨ad169, A169_1, c169_1, e169, hx169_0, hx169_1, hl169_1, hi169_1⟩ := at_T43 HR168_0.out x4_2 p169 q169
               have hw169_1 := hx169_1
               have hw169_0 := hx169_0
               cases e169
               replace hx169_0 := cB_ HB.out hx169_0
               replace hx169_1 := cB_ HB.out hx169_1
               have HR169_1 := aM_ hi169_1
               have HC169_1 := aM_ hl169_1
               clear hi169_1 hl169_1
               replace p169 := eq_true p169
               replace q169 := eq_true q169
               refine start_ (n := 12) (S := fun w' => w'.cell? ⟨gb164, 0, none⟩ = some (.slice (some ad165) l0_0.length c0_0) ∧ w'.cell? (ad165.add (x3_1).toNat) = some (.slice (some ad169) (rd_L3 l0_0 x3_1).length c168_0) ∧ w'.cell? (ad169.add ((x4_2).toNat * 2)) = some (.int .i64 ((rd_T43 (rd_L3 l0_0 x3_1) x4_2).f0)) ∧ w'.cell? ⟨(ad169.add ((x4_2).toNat * 2)).block, (ad169.add ((x4_2).toNat * 2)).off + 1, none⟩ = some (.slice A169_1 ((rd_T43 (rd_L3 l0_0 x3_1) x4_2).f1).length c169_1)) (ds := []) (mk_ 12 0) (by kernel_rfl) rfl rfl ⟨(blk_cell BK164.out 0).trans rfl, (cB_ HB.out hw168_0 :), (cB_ HB.out hw169_0 :), (cB_ HB.out hw169_1 :)⟩ (fun hHeld => ?_); refine with_tabW spec_MemoryOk.tab11 spec_MemoryOk.bits11 (fun HT_ HW_ => ?_)
               generalize wr.drew = w21 at BK164 HB HR168_0 HR169_1 hx168_0 hx169_0 hx169_1 hHeld ⊢
               refine pU_ 1 (some 32) (mk_ 12 2) ?_
               refine pU_ 3 (some 34) (mk_ 12 10) ?_
               refine pU_ 6 (some 37) (mk_ 12 74) ?_
               refine tK4_ 0 (some 31) (mk_ 12 75) ?_
               refine tK4_ 2 (some 33) (mk_ 12 79) ?_
               refine pU_ 4 (some 35) (mk_ 12 95) ?_
               refine tK4_ 5 (some 36) (mk_ 12 127) ?_
               refine pU_ 7 (some 38) (mk_ 12 255) ?_
               refine pU_ 8 (some 39) (mk_ 12 511) ?_
               refine tK4_ 9 (some 40) (mk_ 12 1023) ?_
               refine oN_ 10 (some 41) (mk_ 12 2047) (fun K hK => ?_)
               refine gO_ Try.func29 #[.agg #[.slice (some ad165) l0_0.length c0_0], .slice A169_1 ((rd_T43 (rd_L3 l0_0 x3_1) x4_2).f1).length c169_1] ?_
               with_reducible refine (spec_ViewOk.calls k2 _ _ l0_0 _ _ ((rd_T43 (rd_L3 l0_0 x3_1) x4_2).f1) false _ ?side1 ?side2 ?side3 ?side4 A15.out).mono ?_
               (case side1 => exact cS_ (Kd.C_below HR0_0.out HB.out))
               (case side2 => exact HC0_0.out)
               (case side3 => exact cS_ (Kd.C_below HR169_1.out HB.out))
               (case side4 => exact HC169_1.out)
               rintro e w22 ⟨rfl, hb⟩
               refine ⟨_, rfl, ?_⟩
               have n0 := aM_ (nB_ BK164.out hb)
               have n1 := aM_ (sT_ HB.out hb)
               clear BK164
               clear HB
               have BK164 := n0
               have HB := n1
               clear n0 n1
               (try clear hb)
               (try clear hb2)
               (try clear hk)
               (try clear hi)
               refine hK.out _ _ ⟨(blk_cell BK164.out 0).trans rfl, (cB_ HB.out hw168_0 :), (cB_ HB.out hw169_0 :), (cB_ HB.out hw169_1 :)⟩ (fun hHeld => ?_)
               clear hK K
               refine norm_ (a' := ?_) ?_ ?_
               rotate_left
               ·show Act.put _ (some 41) _ = _
                simp only [pt_, pn_, sI_, s0_, s1_, i64_w, i32_w]
                rfl
               refine pU_ 11 (some 42) (mk_ 12 4095) ?_
               refine done_ (done_of HT_.out (by kernel_rfl)) ?_
               try go_wp2
               go_ret
               exact fI_ HB.out
             ·rw [if_neg c14] at H
              exact absurd H (by simp)
            ·rw [if_neg c13] at H
             have c13b0 : decide (x4_2 < ((rd_L3 l0_0 x3_1).length : Int)) = false := decide_eq_false c13
             clear c13
             have H' := aM_ H
             clear H
             have hcz23_0 : wr.cell? ⟨gb164, 0, none⟩ = some (.slice (some ad165) l0_0.length c0_0) := (blk_cell BK164.out 0).trans rfl
             have hfz23_0 := blk_frozen BK164.out 0
             have p167 : 0 ≤ (x3_1 : Int) := of_decide_eq_true (by first | (with_reducible assumption) | assumption)
             have q167 : x3_1 < (l0_0.length : Int) := of_decide_eq_true (by first | (with_reducible assumption) | assumption)
             obtain ⟨ad167, A167_0, c167_0, e167, hx167_0, hl167_0, hi167_0⟩ := at_L3 HR0_0.out x3_1 p167 q167
             obtain rfl : ad165 = ad167 := (by injection e167)
             replace hx167_0 := cB_ HB.out hx167_0
             have HR167_0 := aM_ hi167_0
             have HC167_0 := aM_ hl167_0
             clear hi167_0 hl167_0
             replace p167 := eq_true p167
             replace q167 := eq_true q167
             go_wp2
             go_roundg k2
             case measure => have := HK1.out; have := HK2.out; omega
             case rel => exact ⟨(wrap64 (x3_1 + 1)), (by first | rfl | (simp; done) | (simp [*]; done)), H', ⟨by have := HK1.out; have := HK2.out; omega⟩, ⟨rW_ BK164.out⟩, ⟨gW_ HB.out⟩⟩
           ·rw [if_neg c12] at H
            exact absurd H (by simp)
          ·rw [if_neg c11] at H
           exact absurd H (by simp)
       ·replace c9 := Bool.eq_false_iff.mpr c9
        subst c9
        have H1 : (some false) = some r := by rw [if_neg (show ¬ (false = true) by decide)] at H; exact H
        clear H
        have H := H1
        clear H1
        obtain rfl := Option.some.inj H
        have hcz24_0 : wr.cell? ⟨gb164, 0, none⟩ = some (.slice A0_0 l0_0.length c0_0) := (blk_cell BK164.out 0).trans rfl
        have hfz24_0 := blk_frozen BK164.out 0
        have p165 : 0 ≤ (x3_1 : Int) := of_decide_eq_true (by first | (with_reducible assumption) | assumption)
        have q165 : x3_1 < (l0_0.length : Int) := of_decide_eq_true (by first | (with_reducible assumption) | assumption)
        obtain ⟨ad165, A165_0, c165_0, e165, hx165_0, hl165_0, hi165_0⟩ := at_L3 HR0_0.out x3_1 p165 q165
        cases e165
        replace hx165_0 := cB_ HB.out hx165_0
        have HR165_0 := aM_ hi165_0
        have HC165_0 := aM_ hl165_0
        clear hi165_0 hl165_0
        replace p165 := eq_true p165
        replace q165 := eq_true q165
        go_wp2_with (first | ((with_reducible refine gate_callee (f := 69) rfl ?_); refine gL_ (some 19) Try.func69 #[.int .i64 ((rd_L3 l0_0 x3_1).length : Int), .int .i64 1, .int .i64 4000] ?_; (with_reducible refine (spec_l1In.calls ((rd_L3 l0_0 x3_1).length : Int) 1 4000 false _ A8.out).mono ?_); rintro e w' ⟨rfl, ⟨nd, rfl⟩⟩; refine ⟨_, rfl, ?_⟩))
        go_ret
        exact fI_ HB.out
      ·rw [if_neg c7] at H
       exact absurd H (by simp)
     ·rw [if_neg c6] at H
      exact absurd H (by simp)
    ·rw [if_neg c5] at H
     have c5b0 : decide (x3_1 < 24) = false := decide_eq_false c5
     clear c5
     obtain rfl := Option.some.inj H
     go_wp2
     go_ret
     exact fI_ HB.out
 ·rw [if_neg c2] at H
  have c2b0 : ((l0_0.length : Int) == 24) = false := beq_eq_false_iff_ne.mpr c2
  have c2b1 : ((l0_0.length : Int) != 24) = true := bne_iff_ne.mpr c2
  obtain rfl := Option.some.inj H
  go_enter Try.func27, Try.ntmps27
  go_wp2_with (first | ((with_reducible refine gate_dst (N := 1) rfl ?_); refine bX_ 1 (cs := #[.slice A0_0 l0_0.length c0_0]) (t := 24) ?_; intro gb164 hg w25 hbox hb; have n0 := aM_ (sT_ HB.out hb); have n1 := aM_ (hbox); have n2 := aM_ (sZ_ hg HB.out); have n3 := aM_ (sZ_ hg HB.out); clear HB; have HB := n0; have BK164 := n1; have GW164 := n2; have GE164 := n3; clear n0 n1 n2 n3; clear hb hbox hg; have hcz26_0 : w25.cell? ⟨gb164, 0, none⟩ = some (.slice A0_0 l0_0.length c0_0) := (blk_cell BK164.out 0).trans rfl; have hfz26_0 := blk_frozen BK164.out 0))
  go_ret
  exact fI_ HB.out
def spec_l9Base.l0 : Nat → List Int → Int → Int → Int → Option (Int)
  | 0, _, _, _, _ => none
  | k + 1, x0, x1, x5, x6 => if x6 < x1 then (if 0 ≤ x6 then (if x6 < (x0.length : Int) then (spec_l9Base.l0 k x0 x1 (wrap64 ((wrap64 (x5 + (rd x0 x6))) + 4)) (wrap64 (x6 + 1))) else (none)) else (none)) else (some x5)
def spec_l9Base.f (k : Nat) (l0 : List Int) (a1 : Int) : Option (Int) := spec_l9Base.l0 k l0 a1 0 0
set_option maxHeartbeats 8000000 in
set_option maxRecDepth 100000 in
theorem spec_l9Base.calls (k : Nat) (A0 : Option Addr) (c0 : Nat) (l0 : List Int) (a1 : Int) (r : Int) (w : World) (hr0 : Kd.C (Kd.int .i64) w A0 l0.length l0) (hc0 : l0.length ≤ c0) (h : spec_l9Base.f k l0 a1 = some r) :
  Calls Try.prog 109 #[.slice A0 l0.length c0, .int .i64 a1] w fun e w' => e = .returned (.int .i64 r) ∧ Drawn0 w w' := by
 have HR0 := aM_ hr0
 have HC0 := aM_ hc0
 clear hr0 hc0
 have H : (spec_l9Base.l0 k l0 a1 0 0) = some r := h
 clear h
 have H' := aM_ H
 clear H
 go_enter Try.func109, Try.ntmps109
 go_wp2
 go_loopg [5, 6] k (fun kq v5 v6 w' => ∃ (x5_1 : Int) (x6_1 : Int), v5 = .int .i64 x5_1 ∧ v6 = .int .i64 x6_1 ∧ Aside0 (spec_l9Base.l0 kq l0 a1 x5_1 x6_1 = some r) ∧ Aside0 (kq ≤ k) ∧ Drawn0 w w')
 case atStart => exact ⟨(0), (0), (by first | rfl | (simp; done) | (simp [*]; done)), (by first | rfl | (simp; done) | (simp [*]; done)), H', ⟨Nat.le_refl _⟩, by repeat (first | exact Drawn0.refl _ | apply Drawn0.step)⟩
 case round =>
  clear H'
  try clear c1
  try clear p2
  obtain ⟨x5_1, x6_1, rfl, rfl, HA, HK1, ⟨m1, rfl⟩⟩ := hrel
  cases gk with
  | zero => exact absurd HA.out (by simp [spec_l9Base.l0])
  | succ k1 =>
   have H := HA.out
   clear HA
   simp only [spec_l9Base.l0] at H
   by_cases c3 : x6_1 < a1
   ·rw [if_pos c3] at H
    have c3b0 : decide (x6_1 < a1) = true := decide_eq_true c3
    clear c3
    by_cases c4 : 0 ≤ x6_1
    ·rw [if_pos c4] at H
     have c4b0 : decide (0 ≤ x6_1) = true := decide_eq_true c4
     clear c4
     by_cases c5 : x6_1 < (l0.length : Int)
     ·rw [if_pos c5] at H
      have c5b0 : decide (x6_1 < (l0.length : Int)) = true := decide_eq_true c5
      clear c5
      have H' := aM_ H
      clear H
      have p171 : 0 ≤ (x6_1 : Int) := of_decide_eq_true (by first | (with_reducible assumption) | assumption)
      have q171 : x6_1 < (l0.length : Int) := of_decide_eq_true (by first | (with_reducible assumption) | assumption)
      obtain ⟨ad171, e171, hx171_0⟩ := Kd.at_int HR0.out x6_1 p171 q171
      cases e171
      replace p171 := eq_true p171
      replace q171 := eq_true q171
      go_wp2
      go_roundg k1
      case measure => have := HK1.out; omega
      case rel => exact ⟨(wrap64 ((wrap64 (x5_1 + (rd l0 x6_1))) + 4)), (wrap64 (x6_1 + 1)), (by first | rfl | (simp; done) | (simp [*]; done)), (by first | rfl | (simp; done) | (simp [*]; done)), H', ⟨by have := HK1.out; omega⟩, by repeat (first | exact Drawn0.refl _ | apply Drawn0.step)⟩
     ·rw [if_neg c5] at H
      exact absurd H (by simp)
    ·rw [if_neg c4] at H
     exact absurd H (by simp)
   ·rw [if_neg c3] at H
    have c3b0 : decide (x6_1 < a1) = false := decide_eq_false c3
    clear c3
    obtain rfl := Option.some.inj H
    go_wp2
    go_ret
    exact ⟨by first | rfl | (simp; done) | (simp [*]; done), by repeat (first | exact Drawn0.refl _ | apply Drawn0.step)⟩
def spec_l9Right.l0 : Nat → List Int → Int → Option (Bool)
  | 0, _, _ => none
  | k + 1, x0, x3 => if x3 < (x0.length : Int) then (if 0 ≤ x3 then ((spec_l1In.f (rd x0 x3) 1 4).bind fun t173 => (if t173 = true then (spec_l9Right.l0 k x0 (wrap64 (x3 + 1))) else (some false))) else (none)) else (if (x0.length : Int) ≤ 24 then ((spec_l9Base.f k x0 (x0.length : Int)).bind fun t174 => (some (decide (t174 ≤ 24)))) else (some false))
def spec_l9Right.f (k : Nat) (l0 : List Int) : Option (Bool) := spec_l9Right.l0 k l0 0
set_option maxHeartbeats 8000000 in
set_option maxRecDepth 100000 in
theorem spec_l9Right.calls (k : Nat) (A0 : Option Addr) (c0 : Nat) (l0 : List Int) (r : Bool) (w : World) (hr0 : Kd.C (Kd.int .i64) w A0 l0.length l0) (hc0 : l0.length ≤ c0) (h : spec_l9Right.f k l0 = some r) :
  Calls Try.prog 108 #[.slice A0 l0.length c0] w fun e w' => e = .returned (.bool r) ∧ Drawn0 w w' := by
 have HR0 := aM_ hr0
 have HC0 := aM_ hc0
 clear hr0 hc0
 have H : (spec_l9Right.l0 k l0 0) = some r := h
 clear h
 have H' := aM_ H
 clear H
 go_enter Try.func108, Try.ntmps108
 go_wp2
 go_loopg [3] k (fun kq v3 w' => ∃ (x3_1 : Int), v3 = .int .i64 x3_1 ∧ Aside0 (spec_l9Right.l0 kq l0 x3_1 = some r) ∧ Aside0 (kq ≤ k) ∧ Drawn0 w w')
 case atStart => exact ⟨(0), (by first | rfl | (simp; done) | (simp [*]; done)), H', ⟨Nat.le_refl _⟩, by repeat (first | exact Drawn0.refl _ | apply Drawn0.step)⟩
 case round =>
  clear H'
  try clear c1
  obtain ⟨x3_1, rfl, HA, HK1, ⟨m1, rfl⟩⟩ := hrel
  cases gk with
  | zero => exact absurd HA.out (by simp [spec_l9Right.l0])
  | succ k1 =>
   have H := HA.out
   clear HA
   simp only [spec_l9Right.l0] at H
   by_cases c2 : x3_1 < (l0.length : Int)
   ·rw [if_pos c2] at H
    have c2b0 : decide (x3_1 < (l0.length : Int)) = true := decide_eq_true c2
    clear c2
    by_cases c3 : 0 ≤ x3_1
    ·rw [if_pos c3] at H
     have c3b0 : decide (0 ≤ x3_1) = true := decide_eq_true c3
     clear c3
     replace H := Option.bind_eq_some_iff.mp H
     obtain ⟨t173, A40, H⟩ := H
     replace H : (if t173 = true then (spec_l9Right.l0 k1 l0 (wrap64 (x3_1 + 1))) else (some false)) = some r := H
     have A4 := aM_ A40
     clear A40
     by_cases c5 : t173 = true
     ·subst c5
      have H1 : (spec_l9Right.l0 k1 l0 (wrap64 (x3_1 + 1))) = some r := by rw [if_pos rfl] at H; exact H
      clear H
      have H := H1
      clear H1
      have H' := aM_ H
      clear H
      have p172 : 0 ≤ (x3_1 : Int) := of_decide_eq_true (by first | (with_reducible assumption) | assumption)
      have q172 : x3_1 < (l0.length : Int) := of_decide_eq_true (by first | (with_reducible assumption) | assumption)
      obtain ⟨ad172, e172, hx172_0⟩ := Kd.at_int HR0.out x3_1 p172 q172
      cases e172
      replace p172 := eq_true p172
      replace q172 := eq_true q172
      go_wp2_with (first | ((with_reducible refine gate_callee (f := 69) rfl ?_); refine gL_ (some 14) Try.func69 #[.int .i64 (rd l0 x3_1), .int .i64 1, .int .i64 4] ?_; (with_reducible refine (spec_l1In.calls (rd l0 x3_1) 1 4 true _ A4.out).mono ?_); rintro e w' ⟨rfl, ⟨nd, rfl⟩⟩; refine ⟨_, rfl, ?_⟩))
      go_roundg k1
      case measure => have := HK1.out; omega
      case rel => exact ⟨(wrap64 (x3_1 + 1)), (by first | rfl | (simp; done) | (simp [*]; done)), H', ⟨by have := HK1.out; omega⟩, by repeat (first | exact Drawn0.refl _ | apply Drawn0.step)⟩
     ·replace c5 := Bool.eq_false_iff.mpr c5
      subst c5
      have H1 : (some false) = some r := by rw [if_neg (show ¬ (false = true) by decide)] at H; exact H
      clear H
      have H := H1
      clear H1
      obtain rfl := Option.some.inj H
      have p172 : 0 ≤ (x3_1 : Int) := of_decide_eq_true (by first | (with_reducible assumption) | assumption)
      have q172 : x3_1 < (l0.length : Int) := of_decide_eq_true (by first | (with_reducible assumption) | assumption)
      obtain ⟨ad172, e172, hx172_0⟩ := Kd.at_int HR0.out x3_1 p172 q172
      cases e172
      replace p172 := eq_true p172
      replace q172 := eq_true q172
      go_wp2_with (first | ((with_reducible refine gate_callee (f := 69) rfl ?_); refine gL_ (some 14) Try.func69 #[.int .i64 (rd l0 x3_1), .int .i64 1, .int .i64 4] ?_; (with_reducible refine (spec_l1In.calls (rd l0 x3_1) 1 4 false _ A4.out).mono ?_); rintro e w' ⟨rfl, ⟨nd, rfl⟩⟩; refine ⟨_, rfl, ?_⟩))
      go_ret
      exact ⟨by first | rfl | (simp; done) | (simp [*]; done), by repeat (first | exact Drawn0.refl _ | apply Drawn0.step)⟩
    ·rw [if_neg c3] at H
     exact absurd H (by simp)
   ·rw [if_neg c2] at H
    have c2b0 : decide (x3_1 < (l0.length : Int)) = false := decide_eq_false c2
    clear c2
    by_cases c6 : (l0.length : Int) ≤ 24
    ·rw [if_pos c6] at H
     have c6b0 : decide ((l0.length : Int) ≤ 24) = true := decide_eq_true c6
     have c6b1 : decide (l0.length ≤ 24) = true := decide_eq_true (by omega)
     clear c6
     replace H := Option.bind_eq_some_iff.mp H
     obtain ⟨t174, A70, H⟩ := H
     replace H : (some (decide (t174 ≤ 24))) = some r := H
     have A7 := aM_ A70
     clear A70
     obtain rfl := Option.some.inj H
     go_wp2_with (first | (go_at_call 109; (with_reducible refine (spec_l9Base.calls k1 _ _ l0 (l0.length : Int) t174 _ ?side1 ?side2 A7.out).mono ?_); (case side1 => exact cS_ HR0.out); (case side2 => exact HC0.out); rintro e w' ⟨rfl, ⟨nd, rfl⟩⟩))
     go_ret
     exact ⟨by first | rfl | (simp; done) | (simp [*]; done), by repeat (first | exact Drawn0.refl _ | apply Drawn0.step)⟩
    ·rw [if_neg c6] at H
     have c6b0 : decide ((l0.length : Int) ≤ 24) = false := decide_eq_false c6
     have c6b1 : decide (l0.length ≤ 24) = false := decide_eq_false (by omega)
     clear c6
     obtain rfl := Option.some.inj H
     go_wp2
     go_ret
     exact ⟨by first | rfl | (simp; done) | (simp [*]; done), by repeat (first | exact Drawn0.refl _ | apply Drawn0.step)⟩
end Go.Proofs.Ythbcnakmnbilhaa.PFnExactChanIn
namespace Go.Proofs.Ythbcnakmnbilhaa.PFnExactChanIn
open Go.RowKit Go.Proofs.YthbcnakmnbilhaaW.PrintWords Go.Proofs.YthbcnakmnbilhaaW.PrintLast Go.Proofs.YthbcnakmnbilhaaW.PrintMore
attribute [local go_sem] max2_int min2_int max_two min_two max_three min_three max_four min_four   -- for this text's walks alone
set_option linter.unusedVariables false
set_option linter.unusedSimpArgs false
def spec_Base.f (k : Nat) (l0 : List Int) (a1 : Int) : Option (Int) := (spec_l9Right.f k l0).bind fun t175 => (if t175 = true then ((spec_l1In.f a1 0 (wrap64 ((l0.length : Int) - 1))).bind fun t176 => (if t176 = true then ((spec_l9Base.f k l0 a1).bind fun t177 => (some t177)) else (some (-1)))) else (some (-1)))
set_option maxHeartbeats 8000000 in
set_option maxRecDepth 100000 in
theorem spec_Base.calls (k : Nat) (A0 : Option Addr) (c0 : Nat) (l0 : List Int) (a1 : Int) (r : Int) (w : World) (hr0 : Kd.C (Kd.int .i64) w A0 l0.length l0) (hc0 : l0.length ≤ c0) (h : spec_Base.f k l0 a1 = some r) :
  Calls Try.prog 87 #[.slice A0 l0.length c0, .int .i64 a1] w fun e w' => e = .returned (.int .i64 r) ∧ Drawn0 w w' := by
 have HR0 := aM_ hr0
 have HC0 := aM_ hc0
 clear hr0 hc0
 have H : ((spec_l9Right.f k l0).bind fun t175 => (if t175 = true then ((spec_l1In.f a1 0 (wrap64 ((l0.length : Int) - 1))).bind fun t176 => (if t176 = true then ((spec_l9Base.f k l0 a1).bind fun t177 => (some t177)) else (some (-1)))) else (some (-1)))) = some r := h
 clear h
 replace H := Option.bind_eq_some_iff.mp H
 obtain ⟨t175, A30, H⟩ := H
 replace H : (if t175 = true then ((spec_l1In.f a1 0 (wrap64 ((l0.length : Int) - 1))).bind fun t176 => (if t176 = true then ((spec_l9Base.f k l0 a1).bind fun t177 => (some t177)) else (some (-1)))) else (some (-1))) = some r := H
 have A3 := aM_ A30
 clear A30
 by_cases c4 : t175 = true
 ·subst c4
  have H1 : ((spec_l1In.f a1 0 (wrap64 ((l0.length : Int) - 1))).bind fun t176 => (if t176 = true then ((spec_l9Base.f k l0 a1).bind fun t177 => (some t177)) else (some (-1)))) = some r := by rw [if_pos rfl] at H; exact H
  clear H
  have H := H1
  clear H1
  replace H := Option.bind_eq_some_iff.mp H
  obtain ⟨t176, A50, H⟩ := H
  replace H : (if t176 = true then ((spec_l9Base.f k l0 a1).bind fun t177 => (some t177)) else (some (-1))) = some r := H
  have A5 := aM_ A50
  clear A50
  by_cases c6 : t176 = true
  ·subst c6
   have H1 : ((spec_l9Base.f k l0 a1).bind fun t177 => (some t177)) = some r := by rw [if_pos rfl] at H; exact H
   clear H
   have H := H1
   clear H1
   replace H := Option.bind_eq_some_iff.mp H
   obtain ⟨t177, A70, H⟩ := H
   replace H : (some t177) = some r := H
   have A7 := aM_ A70
   clear A70
   obtain rfl := Option.some.inj H
   go_enter Try.func87, Try.ntmps87
   go_wp2_with (first | ((with_reducible refine gate_callee (f := 108) rfl ?_); refine gL_ (some 6) Try.func108 #[.slice A0 l0.length c0] ?_; (with_reducible refine (spec_l9Right.calls k _ _ l0 true _ ?side1 ?side2 A3.out).mono ?_); (case side1 => exact cS_ HR0.out); (case side2 => exact HC0.out); rintro e w' ⟨rfl, ⟨nd, rfl⟩⟩; refine ⟨_, rfl, ?_⟩) | (go_at_call 69; (with_reducible refine (spec_l1In.calls a1 0 (wrap64 ((l0.length : Int) - 1)) true _ A5.out).mono ?_); rintro e w' ⟨rfl, ⟨nd, rfl⟩⟩) | ((with_reducible refine gate_callee (f := 109) rfl ?_); refine gL_ (some 18) Try.func109 #[.slice A0 l0.length c0, .int .i64 a1] ?_; (with_reducible refine (spec_l9Base.calls k _ _ l0 a1 t177 _ ?side1 ?side2 A7.out).mono ?_); (case side1 => exact cS_ HR0.out); (case side2 => exact HC0.out); rintro e w' ⟨rfl, ⟨nd, rfl⟩⟩; refine ⟨_, rfl, ?_⟩))
   go_ret
   exact ⟨by first | rfl | (simp; done) | (simp [*]; done), by repeat (first | exact Drawn0.refl _ | apply Drawn0.step)⟩
  ·replace c6 := Bool.eq_false_iff.mpr c6
   subst c6
   have H1 : (some (-1)) = some r := by rw [if_neg (show ¬ (false = true) by decide)] at H; exact H
   clear H
   have H := H1
   clear H1
   obtain rfl := Option.some.inj H
   go_enter Try.func87, Try.ntmps87
   go_wp2_with (first | ((with_reducible refine gate_callee (f := 108) rfl ?_); refine gL_ (some 6) Try.func108 #[.slice A0 l0.length c0] ?_; (with_reducible refine (spec_l9Right.calls k _ _ l0 true _ ?side1 ?side2 A3.out).mono ?_); (case side1 => exact cS_ HR0.out); (case side2 => exact HC0.out); rintro e w' ⟨rfl, ⟨nd, rfl⟩⟩; refine ⟨_, rfl, ?_⟩) | (go_at_call 69; (with_reducible refine (spec_l1In.calls a1 0 (wrap64 ((l0.length : Int) - 1)) false _ A5.out).mono ?_); rintro e w' ⟨rfl, ⟨nd, rfl⟩⟩))
   go_ret
   exact ⟨by first | rfl | (simp; done) | (simp [*]; done), by repeat (first | exact Drawn0.refl _ | apply Drawn0.step)⟩
 ·replace c4 := Bool.eq_false_iff.mpr c4
  subst c4
  have H1 : (some (-1)) = some r := by rw [if_neg (show ¬ (false = true) by decide)] at H; exact H
  clear H
  have H := H1
  clear H1
  obtain rfl := Option.some.inj H
  go_enter Try.func87, Try.ntmps87
  go_wp2_with (first | ((with_reducible refine gate_callee (f := 108) rfl ?_); refine gL_ (some 6) Try.func108 #[.slice A0 l0.length c0] ?_; (with_reducible refine (spec_l9Right.calls k _ _ l0 false _ ?side1 ?side2 A3.out).mono ?_); (case side1 => exact cS_ HR0.out); (case side2 => exact HC0.out); rintro e w' ⟨rfl, ⟨nd, rfl⟩⟩; refine ⟨_, rfl, ?_⟩))
  go_ret
  exact ⟨by first | rfl | (simp; done) | (simp [*]; done), by repeat (first | exact Drawn0.refl _ | apply Drawn0.step)⟩
def spec_l9Last.f (l0_0 : List (List (S43))) (a1 : Int) : Option (Int) := if 0 ≤ a1 then (if a1 < (l0_0.length : Int) then (if 0 ≤ (wrap64 (((rd_L3 l0_0 a1).length : Int) - 1)) then (if (wrap64 (((rd_L3 l0_0 a1).length : Int) - 1)) < ((rd_L3 l0_0 a1).length : Int) then (some ((rd_T43 (rd_L3 l0_0 a1) (wrap64 (((rd_L3 l0_0 a1).length : Int) - 1))).f0)) else (none)) else (none)) else (none)) else (none)
set_option maxHeartbeats 8000000 in
set_option maxRecDepth 100000 in
theorem spec_l9Last.calls (A0_0 : Option Addr) (c0_0 : Nat) (l0_0 : List (List (S43))) (a1 : Int) (r : Int) (w : World) (hr0_0 : Kd.C (Kd.slice 43 k43) w A0_0 l0_0.length l0_0) (hc0_0 : l0_0.length ≤ c0_0) (h : spec_l9Last.f l0_0 a1 = some r) :
  Calls Try.prog 88 #[.agg #[.slice A0_0 l0_0.length c0_0], .int .i64 a1] w fun e w' => e = .returned (.int .i64 r) ∧ Below w.heap.size w w' := by
 have hu24 := Try.underlying24
 have HR0_0 := aM_ hr0_0
 have HC0_0 := aM_ hc0_0
 clear hr0_0 hc0_0
 have HB := aM_ (Below.refl w.heap.size w)
 have H : (if 0 ≤ a1 then (if a1 < (l0_0.length : Int) then (if 0 ≤ (wrap64 (((rd_L3 l0_0 a1).length : Int) - 1)) then (if (wrap64 (((rd_L3 l0_0 a1).length : Int) - 1)) < ((rd_L3 l0_0 a1).length : Int) then (some ((rd_T43 (rd_L3 l0_0 a1) (wrap64 (((rd_L3 l0_0 a1).length : Int) - 1))).f0)) else (none)) else (none)) else (none)) else (none)) = some r := h
 clear h
 by_cases c3 : 0 ≤ a1
 ·rw [if_pos c3] at H
  have c3b0 : decide (0 ≤ a1) = true := decide_eq_true c3
  clear c3
  by_cases c4 : a1 < (l0_0.length : Int)
  ·rw [if_pos c4] at H
   have c4b0 : decide (a1 < (l0_0.length : Int)) = true := decide_eq_true c4
   clear c4
   obtain ⟨ji5, hji5⟩ : ∃ j_ : Int, (wrap64 (((rd_L3 l0_0 a1).length : Int) - 1)) = j_ := ⟨_, rfl⟩
   replace H : (if 0 ≤ (ji5) then (if (ji5) < ((rd_L3 l0_0 a1).length : Int) then (some ((rd_T43 (rd_L3 l0_0 a1) (ji5)).f0)) else (none)) else (none)) = some r := by first | (rw [hji5] at H; exact H) | (simp only [hji5] at H ⊢; exact H)
   have hji5w : (IntKind.i64.wrap (((rd_L3 l0_0 a1).length : Int) - 1)) = ji5 := (i64_w _).trans hji5
   by_cases c6 : 0 ≤ (ji5)
   ·rw [if_pos c6] at H
    have c6b0 : decide (0 ≤ (ji5)) = true := decide_eq_true c6
    clear c6
    by_cases c7 : (ji5) < ((rd_L3 l0_0 a1).length : Int)
    ·rw [if_pos c7] at H
     have c7b0 : decide ((ji5) < ((rd_L3 l0_0 a1).length : Int)) = true := decide_eq_true c7
     clear c7
     obtain rfl := Option.some.inj H
     go_enter Try.func88, Try.ntmps88
     go_wp2_with (first | ((with_reducible refine gate_dst (N := 2) rfl ?_); refine bX_ 2 (cs := #[.slice A0_0 l0_0.length c0_0]) (t := 24) ?_; intro gb178 hg w8 hbox hb; have n0 := aM_ (sT_ HB.out hb); have n1 := aM_ (hbox); have n2 := aM_ (sZ_ hg HB.out); have n3 := aM_ (sZ_ hg HB.out); clear HB; have HB := n0; have BK178 := n1; have GW178 := n2; have GE178 := n3; clear n0 n1 n2 n3; clear hb hbox hg; have hcz9_0 : w8.cell? ⟨gb178, 0, none⟩ = some (.slice A0_0 l0_0.length c0_0) := (blk_cell BK178.out 0).trans rfl; have hfz9_0 := blk_frozen BK178.out 0; have p179 : 0 ≤ (a1 : Int) := of_decide_eq_true (by first | (with_reducible assumption) | assumption); have q179 : a1 < (l0_0.length : Int) := of_decide_eq_true (by first | (with_reducible assumption) | assumption); obtain ⟨ad179, A179_0, c179_0, e179, hx179_0, hl179_0, hi179_0⟩ := at_L3 HR0_0.out a1 p179 q179; cases e179; replace hx179_0 := cB_ HB.out hx179_0; have HR179_0 := aM_ hi179_0; have HC179_0 := aM_ hl179_0; clear hi179_0 hl179_0; replace p179 := eq_true p179; replace q179 := eq_true q179; have p180 : 0 ≤ ((ji5) : Int) := of_decide_eq_true (by first | (with_reducible assumption) | assumption); have q180 : (ji5) < ((rd_L3 l0_0 a1).length : Int) := of_decide_eq_true (by first | (with_reducible assumption) | assumption); obtain ⟨ad180, A180_1, c180_1, e180, hx180_0, hx180_1, hl180_1, hi180_1⟩ := at_T43 HR179_0.out (ji5) p180 q180; cases e180; replace hx180_0 := cB_ HB.out hx180_0; replace hx180_1 := cB_ HB.out hx180_1; have HR180_1 := aM_ hi180_1; have HC180_1 := aM_ hl180_1; clear hi180_1 hl180_1; replace p180 := eq_true p180; replace q180 := eq_true q180))
     go_ret
     exact ⟨by first | rfl | (simp [errW_none, errW_some] <;> rfl) | (simp only [← hji5]; first | rfl | (simp [errW_none, errW_some] <;> rfl)) | (simp [*, errW_none, errW_some] <;> rfl), gB_ HB.out⟩
    ·rw [if_neg c7] at H
     exact absurd H (by simp)
   ·rw [if_neg c6] at H
    exact absurd H (by simp)
  ·rw [if_neg c4] at H
   exact absurd H (by simp)
 ·rw [if_neg c3] at H
  exact absurd H (by simp)
end Go.Proofs.Ythbcnakmnbilhaa.PFnExactChanIn
