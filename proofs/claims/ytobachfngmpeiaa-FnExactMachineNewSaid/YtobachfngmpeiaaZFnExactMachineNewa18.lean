/- A part of the proof that the law FnExactMachineNew holds for every input. -/
import Derived.Test.YtobachfngmpeiaaZFnExactMachineNewa17
import Derived.Test.YtobachfngmpeiaaZFnExactMachineNews
namespace Go.Proofs.Ytobachfngmpeiaa.PFnExactMachineNew
open Go.RowKit Go.Proofs.YtobachfngmpeiaaW.PrintWords Go.Proofs.YtobachfngmpeiaaW.PrintLast Go.Proofs.YtobachfngmpeiaaW.PrintMore
attribute [local go_sem] max2_int min2_int max_two min_two max_three min_three max_four min_four   -- for this text's walks alone
set_option linter.unusedVariables false
set_option linter.unusedSimpArgs false
mutual
def spec_MemoryOk.l0 : Nat → Int → List (List (S170)) → Option (Bool)
  | 0, _, _ => none
  | k + 1, x3, x132000 => if x3 < 24 then (if 0 ≤ x3 then (if x3 < (x132000.length : Int) then ((spec_l1In.f ((rd_L7 x132000 x3).length : Int) 1 4000).bind fun t133 => (if t133 = true then (spec_MemoryOk.l1 k x3 0 x132000) else (some false))) else (none)) else (none)) else (some true)
def spec_MemoryOk.l1 : Nat → Int → Int → List (List (S170)) → Option (Bool)
  | 0, _, _, _ => none
  | k + 1, x3, x4, x132000 => if 0 ≤ x3 then (if x3 < (x132000.length : Int) then (if x4 < ((rd_L7 x132000 x3).length : Int) then (if 0 ≤ x4 then ((spec_ViewOk.f k x132000 ((rd_T170 (rd_L7 x132000 x3) x4).f1)).bind fun t137 => (if t137 = true then (spec_MemoryOk.l1 k x3 (wrap64 (x4 + 1)) x132000) else (some false))) else (none)) else (spec_MemoryOk.l0 k (wrap64 (x3 + 1)) x132000)) else (none)) else (none)
end
def spec_MemoryOk.f (k : Nat) (l0_0 : List (List (S170))) : Option (Bool) := if (l0_0.length : Int) = 24 then (spec_MemoryOk.l0 k 0 l0_0) else (some false)
def spec_MemoryOk.T11 : Bool × List (List Nat × List Nat) := (true, [([], []), ([], []), ([1], [1]), ([], []), ([2, 3], [2, 3]), ([4], [4]), ([], []), ([5, 6], [5, 6]), ([7], [7]), ([8], [8]), ([0, 9], [0, 9]), ([10], [10])])
def spec_MemoryOk.B11 : List Nat := [0, 0, 2, 0, 14, 30, 0, 126, 254, 510, 1023, 2047]
theorem spec_MemoryOk.tab11 : rtab .any (opsOf Try.f116 11) = spec_MemoryOk.T11 := by kernel_rfl
theorem spec_MemoryOk.bits11 : waitsOk spec_MemoryOk.T11.2 spec_MemoryOk.B11 = true := by kernel_rfl
set_option maxHeartbeats 8000000 in
set_option maxRecDepth 100000 in
theorem spec_MemoryOk.calls (k : Nat) (A0_0 : Option Addr) (c0_0 : Nat) (l0_0 : List (List (S170))) (r : Bool) (w : World) (hr0_0 : Kd.C (Kd.slice 170 k170) w A0_0 l0_0.length l0_0) (hc0_0 : l0_0.length ≤ c0_0) (h : spec_MemoryOk.f k l0_0 = some r) :
  Calls Try.prog 116 #[.agg #[.slice A0_0 l0_0.length c0_0]] w fun e w' => e = .returned (.bool r) ∧ Below w.heap.size w w' := by
 have hu57 := Try.underlying57
 have HR0_0 := aM_ hr0_0
 have HC0_0 := aM_ hc0_0
 clear hr0_0 hc0_0
 have HB := aM_ (Below.refl w.heap.size w)
 have H : (if (l0_0.length : Int) = 24 then (spec_MemoryOk.l0 k 0 l0_0) else (some false)) = some r := h
 clear h
 by_cases c2 : (l0_0.length : Int) = 24
 ·rw [if_pos c2] at H
  have c2b0 : ((l0_0.length : Int) == 24) = true := beq_iff_eq.mpr c2
  have c2b1 : ((l0_0.length : Int) != 24) = false := bne_eq_false_iff_eq.mpr c2
  clear c2
  have H' := aM_ H
  clear H
  go_enter Try.func116, Try.ntmps116
  go_wp2_with (first | ((with_reducible refine gate_dst (N := 1) rfl ?_); refine bX_ 1 (cs := #[.slice A0_0 l0_0.length c0_0]) (t := 57) ?_; intro gb131 hg w3 hbox hb; have BK131 := aM_ (hbox); have GE131 := aM_ (sZ_ hg HB.out); replace HB := aM_ (sT_ HB.out hb); clear hb hbox hg; have hcz4_0 : w3.cell? ⟨gb131, 0, none⟩ = some (.slice A0_0 l0_0.length c0_0) := (blk_cell BK131.out 0).trans rfl; have hfz4_0 := blk_frozen BK131.out 0))
  go_loopg [3] k (fun kq v3 w' => ∃ (x3_1 : Int), v3 = .int .i64 x3_1 ∧ Aside0 (spec_MemoryOk.l0 kq x3_1 l0_0 = some r) ∧ Aside0 (kq ≤ k) ∧ Aside0 (w'.heap[gb131]? = some (.cells #[(.slice A0_0 l0_0.length c0_0)] 57 (0, 0))) ∧ Aside0 (Below w.heap.size w w'))
  case atStart => exact ⟨(0), (by first | rfl | (simp; done) | (simp [*]; done)), H', ⟨Nat.le_refl _⟩, ⟨rW_ BK131.out⟩, ⟨gW_ HB.out⟩⟩
  case round =>
   clear H'
   try clear c1
   try clear c2
   try clear c2b0
   try clear c2b1
   try clear p2
   try clear hcz4_0 hfz4_0
   obtain ⟨x3_1, rfl, HA, HK1, BK131, HB⟩ := hrel
   cases gk with
   | zero => exact absurd HA.out (by simp [spec_MemoryOk.l0])
   | succ k1 =>
    have H := HA.out
    clear HA
    simp only [spec_MemoryOk.l0] at H
    by_cases c5 : x3_1 < 24
    ·rw [if_pos c5] at H
     have c5b0 : decide (x3_1 < 24) = true := decide_eq_true c5
     clear c5
     by_cases c6 : 0 ≤ x3_1
     ·rw [if_pos c6] at H
      have c6b0 : decide (0 ≤ x3_1) = true := decide_eq_true c6
      clear c6
      by_cases c7 : x3_1 < (l0_0.length : Int)
      ·rw [if_pos c7] at H
       have c7b0 : decide (x3_1 < (l0_0.length : Int)) = true := decide_eq_true c7
       clear c7
       replace H := Option.bind_eq_some_iff.mp H
       obtain ⟨t133, A80, H⟩ := H
       replace H : (if t133 = true then (spec_MemoryOk.l1 k1 x3_1 0 l0_0) else (some false)) = some r := H
       have A8 := aM_ A80
       clear A80
       by_cases c9 : t133 = true
       ·subst c9
        have H1 : (spec_MemoryOk.l1 k1 x3_1 0 l0_0) = some r := by rw [if_pos rfl] at H; exact H
        clear H
        have H := H1
        clear H1
        have H' := aM_ H
        clear H
        have hcz10_0 : wr.cell? ⟨gb131, 0, none⟩ = some (.slice A0_0 l0_0.length c0_0) := (blk_cell BK131.out 0).trans rfl
        have hfz10_0 := blk_frozen BK131.out 0
        have p132 : 0 ≤ (x3_1 : Int) := of_decide_eq_true (by first | (with_reducible assumption) | assumption)
        have q132 : x3_1 < (l0_0.length : Int) := of_decide_eq_true (by first | (with_reducible assumption) | assumption)
        obtain ⟨ad132, A132_0, c132_0, e132, hx132_0, hl132_0, hi132_0⟩ := at_L7 HR0_0.out x3_1 p132 q132
        cases e132
        replace hx132_0 := cB_ HB.out hx132_0
        have HR132_0 := aM_ hi132_0
        have HC132_0 := aM_ hl132_0
        clear hi132_0 hl132_0
        replace p132 := eq_true p132
        replace q132 := eq_true q132
        go_wp2_with (first | ((with_reducible refine gate_callee (f := 111) rfl ?_); refine gL_ (some 19) Try.func111 #[.int .i64 ((rd_L7 l0_0 x3_1).length : Int), .int .i64 1, .int .i64 4000] ?_; (with_reducible refine (spec_l1In.calls ((rd_L7 l0_0 x3_1).length : Int) 1 4000 true _ A8.out).mono ?_); rintro e w' ⟨rfl, ⟨nd, rfl⟩⟩; refine ⟨_, rfl, ?_⟩))
        go_loopg [4] k1 (fun kq v4 w' => ∃ (x4_2 : Int), v4 = .int .i64 x4_2 ∧ Aside0 (spec_MemoryOk.l1 kq x3_1 x4_2 l0_0 = some r) ∧ Aside0 (kq ≤ k1) ∧ Aside0 (w'.heap[gb131]? = some (.cells #[(.slice (some ad132) l0_0.length c0_0)] 57 (0, 0))) ∧ Aside0 (Below w.heap.size w w'))
        case atStart => exact ⟨(0), (by first | rfl | (simp; done) | (simp [*]; done)), H', ⟨Nat.le_refl _⟩, ⟨rW_ BK131.out⟩, ⟨gW_ HB.out⟩⟩
        case round =>
         clear H'
         try clear c1
         try clear p1
         try clear q1
         try clear hx1
         try clear c2
         try clear c2b0
         try clear c2b1
         try clear p2
         try clear c5
         try clear c5b0
         try clear c6
         try clear c6b0
         try clear c7
         try clear c7b0
         try clear c9
         try clear hcz10_0 hfz10_0
         try clear hcz4_0 hfz4_0
         try clear hx132_0
         try clear p132
         try clear p2
         try clear q132
         obtain ⟨x4_2, rfl, HA, HK2, BK131, HB⟩ := hrel
         cases gk with
         | zero => exact absurd HA.out (by simp [spec_MemoryOk.l1])
         | succ k2 =>
          have H := HA.out
          clear HA
          simp only [spec_MemoryOk.l1] at H
          by_cases c11 : 0 ≤ x3_1
          ·rw [if_pos c11] at H
           have c11b0 : decide (0 ≤ x3_1) = true := decide_eq_true c11
           clear c11
           by_cases c12 : x3_1 < (l0_0.length : Int)
           ·rw [if_pos c12] at H
            have c12b0 : decide (x3_1 < (l0_0.length : Int)) = true := decide_eq_true c12
            clear c12
            by_cases c13 : x4_2 < ((rd_L7 l0_0 x3_1).length : Int)
            ·rw [if_pos c13] at H
             have c13b0 : decide (x4_2 < ((rd_L7 l0_0 x3_1).length : Int)) = true := decide_eq_true c13
             clear c13
             by_cases c14 : 0 ≤ x4_2
             ·rw [if_pos c14] at H
              have c14b0 : decide (0 ≤ x4_2) = true := decide_eq_true c14
              clear c14
              replace H := Option.bind_eq_some_iff.mp H
              obtain ⟨t137, A150, H⟩ := H
              replace H : (if t137 = true then (spec_MemoryOk.l1 k2 x3_1 (wrap64 (x4_2 + 1)) l0_0) else (some false)) = some r := H
              have A15 := aM_ A150
              clear A150
              by_cases c16 : t137 = true
              ·subst c16
               have H1 : (spec_MemoryOk.l1 k2 x3_1 (wrap64 (x4_2 + 1)) l0_0) = some r := by rw [if_pos rfl] at H; exact H
               clear H
               have H := H1
               clear H1
               have H' := aM_ H
               clear H
               have hcz17_0 : wr.cell? ⟨gb131, 0, none⟩ = some (.slice (some ad132) l0_0.length c0_0) := (blk_cell BK131.out 0).trans rfl
               have hfz17_0 := blk_frozen BK131.out 0
               have p134 : 0 ≤ (x3_1 : Int) := of_decide_eq_true (by first | (with_reducible assumption) | assumption)
               have q134 : x3_1 < (l0_0.length : Int) := of_decide_eq_true (by first | (with_reducible assumption) | assumption)
               obtain ⟨ad134, A134_0, c134_0, e134, hx134_0, hl134_0, hi134_0⟩ := at_L7 HR0_0.out x3_1 p134 q134
               obtain rfl : ad132 = ad134 := (by injection e134)
               replace hx134_0 := cB_ HB.out hx134_0
               have HR134_0 := aM_ hi134_0
               have HC134_0 := aM_ hl134_0
               clear hi134_0 hl134_0
               replace p134 := eq_true p134
               replace q134 := eq_true q134
               try go_wp2
               replace BK131 := aM_ (blk_drew BK131.out)
               replace HB := aM_ (below_drew1 HB.out)
               have p135 : 0 ≤ (x3_1 : Int) := of_decide_eq_true (by first | (with_reducible assumption) | assumption)
               have q135 : x3_1 < (l0_0.length : Int) := of_decide_eq_true (by first | (with_reducible assumption) | assumption)
               obtain ⟨ad135, A135_0, c135_0, e135, hx135_0, hl135_0, hi135_0⟩ := at_L7 HR0_0.out x3_1 p135 q135
               have hw135_0 := hx135_0
               obtain rfl : ad132 = ad135 := (by injection e135)
               replace hx135_0 := cB_ HB.out hx135_0
               have HR135_0 := aM_ hi135_0
               have HC135_0 := aM_ hl135_0
               clear hi135_0 hl135_0
               replace p135 := eq_true p135
               replace q135 := eq_true q135
               have p136 : 0 ≤ (x4_2 : Int) := of_decide_eq_true (by first | (with_reducible assumption) | assumption)
               have q136 : x4_2 < ((rd_L7 l0_0 x3_1).length : Int) := of_decide_eq_true (by first | (with_reducible assumption) | assumption)
               obtain ⟨ad136, A136_1, c136_1, e136, hx136_0, hx136_1, hl136_1, hi136_1⟩ := at_T170 HR135_0.out x4_2 p136 q136
               have hw136_1 := hx136_1
               have hw136_0 := hx136_0
               cases e136
               replace hx136_0 := cB_ HB.out hx136_0
               replace hx136_1 := cB_ HB.out hx136_1
               have HR136_1 := aM_ hi136_1
               have HC136_1 := aM_ hl136_1
               clear hi136_1 hl136_1
               replace p136 := eq_true p136
               replace q136 := eq_true q136
               refine start_ (n := 12) (S := fun w' => w'.cell? ⟨gb131, 0, none⟩ = some (.slice (some ad132) l0_0.length c0_0) ∧ w'.cell? (ad132.add (x3_1).toNat) = some (.slice (some ad136) (rd_L7 l0_0 x3_1).length c135_0) ∧ w'.cell? (ad136.add ((x4_2).toNat * 2)) = some (.int .i64 ((rd_T170 (rd_L7 l0_0 x3_1) x4_2).f0)) ∧ w'.cell? ⟨(ad136.add ((x4_2).toNat * 2)).block, (ad136.add ((x4_2).toNat * 2)).off + 1, none⟩ = some (.slice A136_1 ((rd_T170 (rd_L7 l0_0 x3_1) x4_2).f1).length c136_1)) (ds := []) (mk_ 12 0) (by kernel_rfl) rfl rfl ⟨(blk_cell BK131.out 0).trans rfl, (cB_ HB.out hw135_0 :), (cB_ HB.out hw136_0 :), (cB_ HB.out hw136_1 :)⟩ (fun hHeld => ?_); refine with_tabW spec_MemoryOk.tab11 spec_MemoryOk.bits11 (fun HT_ HW_ => ?_)
               generalize wr.drew = w18 at BK131 HB HR135_0 HR136_1 hx135_0 hx136_0 hx136_1 hHeld ⊢
               refine pU_ 1 32 (mk_ 12 2) ?_
               refine pU_ 3 34 (mk_ 12 10) ?_
               refine pU_ 6 37 (mk_ 12 74) ?_
               refine tK4_ 0 31 (mk_ 12 75) ?_
               refine tK4_ 2 33 (mk_ 12 79) ?_
               refine pU_ 4 35 (mk_ 12 95) ?_
               refine tK4_ 5 36 (mk_ 12 127) ?_
               refine pU_ 7 38 (mk_ 12 255) ?_
               refine pU_ 8 39 (mk_ 12 511) ?_
               refine tK4_ 9 40 (mk_ 12 1023) ?_
               refine oN_ 10 41 (mk_ 12 2047) (fun K hK => ?_)
               refine gO_ Try.func133 #[.agg #[.slice (some ad132) l0_0.length c0_0], .slice A136_1 ((rd_T170 (rd_L7 l0_0 x3_1) x4_2).f1).length c136_1] ?_
               with_reducible refine (spec_ViewOk.calls k2 _ _ l0_0 _ _ ((rd_T170 (rd_L7 l0_0 x3_1) x4_2).f1) true _ ?side1 ?side2 ?side3 ?side4 A15.out).mono ?_
               (case side1 => exact cS_ (Kd.C_below HR0_0.out HB.out))
               (case side2 => exact HC0_0.out)
               (case side3 => exact cS_ (Kd.C_below HR136_1.out HB.out))
               (case side4 => exact HC136_1.out)
               rintro e w19 ⟨rfl, hb⟩
               refine ⟨_, rfl, ?_⟩
               replace BK131 := aM_ (nB_ BK131.out hb)
               replace HB := aM_ (sT_ HB.out hb)
               (try clear hb)
               (try clear hb2)
               (try clear hk)
               (try clear hi)
               refine kO_ hK (some 41) ⟨(blk_cell BK131.out 0).trans rfl, (cB_ HB.out hw135_0 :), (cB_ HB.out hw136_0 :), (cB_ HB.out hw136_1 :)⟩ (fun hHeld => ?_)
               clear hK K
               refine pU_ 11 42 (mk_ 12 4095) ?_
               refine done_ (done_of HT_.out (by kernel_rfl)) ?_
               try go_wp2
               go_roundg k2
               case measure => have := HK1.out; have := HK2.out; omega
               case rel => exact ⟨(wrap64 (x4_2 + 1)), (by first | rfl | (simp; done) | (simp [*]; done)), H', ⟨by have := HK1.out; have := HK2.out; omega⟩, ⟨rW_ BK131.out⟩, ⟨gW_ HB.out⟩⟩
              ·replace c16 := Bool.eq_false_iff.mpr c16
               subst c16
               have H1 : (some false) = some r := by rw [if_neg (show ¬ (false = true) by decide)] at H; exact H
               clear H
               have H := H1
               clear H1
               obtain rfl := Option.some.inj H
               have hcz20_0 : wr.cell? ⟨gb131, 0, none⟩ = some (.slice (some ad132) l0_0.length c0_0) := (blk_cell BK131.out 0).trans rfl
               have hfz20_0 := blk_frozen BK131.out 0
               have p134 : 0 ≤ (x3_1 : Int) := of_decide_eq_true (by first | (with_reducible assumption) | assumption)
               have q134 : x3_1 < (l0_0.length : Int) := of_decide_eq_true (by first | (with_reducible assumption) | assumption)
               obtain ⟨ad134, A134_0, c134_0, e134, hx134_0, hl134_0, hi134_0⟩ := at_L7 HR0_0.out x3_1 p134 q134
               obtain rfl : ad132 = ad134 := (by injection e134)
               replace hx134_0 := cB_ HB.out hx134_0
               have HR134_0 := aM_ hi134_0
               have HC134_0 := aM_ hl134_0
               clear hi134_0 hl134_0
               replace p134 := eq_true p134
               replace q134 := eq_true q134
               try go_wp2
               replace BK131 := aM_ (blk_drew BK131.out)
               replace HB := aM_ (below_drew1 HB.out)
               have p135 : 0 ≤ (x3_1 : Int) := of_decide_eq_true (by first | (with_reducible assumption) | assumption)
               have q135 : x3_1 < (l0_0.length : Int) := of_decide_eq_true (by first | (with_reducible assumption) | assumption)
               obtain ⟨ad135, A135_0, c135_0, e135, hx135_0, hl135_0, hi135_0⟩ := at_L7 HR0_0.out x3_1 p135 q135
               have hw135_0 := hx135_0
               obtain rfl : ad132 = ad135 := (by injection e135)
               replace hx135_0 := cB_ HB.out hx135_0
               have HR135_0 := aM_ hi135_0
               have HC135_0 := aM_ hl135_0
               clear hi135_0 hl135_0
               replace p135 := eq_true p135
               replace q135 := eq_true q135
               have p136 : 0 ≤ (x4_2 : Int) := of_decide_eq_true (by first | (with_reducible assumption) | assumption)
               have q136 : x4_2 < ((rd_L7 l0_0 x3_1).length : Int) := of_decide_eq_true (by first | (with_reducible assumption) | assumption)
               obtain ⟨ad136, A136_1, c136_1, e136, hx136_0, hx136_1, hl136_1, hi136_1⟩ := at_T170 HR135_0.out x4_2 p136 q136
               have hw136_1 := hx136_1
               have hw136_0 := hx136_0
               cases e136
               replace hx136_0 := cB_ HB.out hx136_0
               replace hx136_1 := cB_ HB.out hx136_1
               have HR136_1 := aM_ hi136_1
               have HC136_1 := aM_ hl136_1
               clear hi136_1 hl136_1
               replace p136 := eq_true p136
               replace q136 := eq_true q136
               refine start_ (n := 12) (S := fun w' => w'.cell? ⟨gb131, 0, none⟩ = some (.slice (some ad132) l0_0.length c0_0) ∧ w'.cell? (ad132.add (x3_1).toNat) = some (.slice (some ad136) (rd_L7 l0_0 x3_1).length c135_0) ∧ w'.cell? (ad136.add ((x4_2).toNat * 2)) = some (.int .i64 ((rd_T170 (rd_L7 l0_0 x3_1) x4_2).f0)) ∧ w'.cell? ⟨(ad136.add ((x4_2).toNat * 2)).block, (ad136.add ((x4_2).toNat * 2)).off + 1, none⟩ = some (.slice A136_1 ((rd_T170 (rd_L7 l0_0 x3_1) x4_2).f1).length c136_1)) (ds := []) (mk_ 12 0) (by kernel_rfl) rfl rfl ⟨(blk_cell BK131.out 0).trans rfl, (cB_ HB.out hw135_0 :), (cB_ HB.out hw136_0 :), (cB_ HB.out hw136_1 :)⟩ (fun hHeld => ?_); refine with_tabW spec_MemoryOk.tab11 spec_MemoryOk.bits11 (fun HT_ HW_ => ?_)
               generalize wr.drew = w21 at BK131 HB HR135_0 HR136_1 hx135_0 hx136_0 hx136_1 hHeld ⊢
               refine pU_ 1 32 (mk_ 12 2) ?_
               refine pU_ 3 34 (mk_ 12 10) ?_
               refine pU_ 6 37 (mk_ 12 74) ?_
               refine tK4_ 0 31 (mk_ 12 75) ?_
               refine tK4_ 2 33 (mk_ 12 79) ?_
               refine pU_ 4 35 (mk_ 12 95) ?_
               refine tK4_ 5 36 (mk_ 12 127) ?_
               refine pU_ 7 38 (mk_ 12 255) ?_
               refine pU_ 8 39 (mk_ 12 511) ?_
               refine tK4_ 9 40 (mk_ 12 1023) ?_
               refine oN_ 10 41 (mk_ 12 2047) (fun K hK => ?_)
               refine gO_ Try.func133 #[.agg #[.slice (some ad132) l0_0.length c0_0], .slice A136_1 ((rd_T170 (rd_L7 l0_0 x3_1) x4_2).f1).length c136_1] ?_
               with_reducible refine (spec_ViewOk.calls k2 _ _ l0_0 _ _ ((rd_T170 (rd_L7 l0_0 x3_1) x4_2).f1) false _ ?side1 ?side2 ?side3 ?side4 A15.out).mono ?_
               (case side1 => exact cS_ (Kd.C_below HR0_0.out HB.out))
               (case side2 => exact HC0_0.out)
               (case side3 => exact cS_ (Kd.C_below HR136_1.out HB.out))
               (case side4 => exact HC136_1.out)
               rintro e w22 ⟨rfl, hb⟩
               refine ⟨_, rfl, ?_⟩
               replace BK131 := aM_ (nB_ BK131.out hb)
               replace HB := aM_ (sT_ HB.out hb)
               (try clear hb)
               (try clear hb2)
               (try clear hk)
               (try clear hi)
               refine kO_ hK (some 41) ⟨(blk_cell BK131.out 0).trans rfl, (cB_ HB.out hw135_0 :), (cB_ HB.out hw136_0 :), (cB_ HB.out hw136_1 :)⟩ (fun hHeld => ?_)
               clear hK K
               refine pU_ 11 42 (mk_ 12 4095) ?_
               refine done_ (done_of HT_.out (by kernel_rfl)) ?_
               try go_wp2
               go_ret
               exact fI_ HB.out
             ·rw [if_neg c14] at H
              exact absurd H (by simp)
            ·rw [if_neg c13] at H
             have c13b0 : decide (x4_2 < ((rd_L7 l0_0 x3_1).length : Int)) = false := decide_eq_false c13
             clear c13
             have H' := aM_ H
             clear H
             have hcz23_0 : wr.cell? ⟨gb131, 0, none⟩ = some (.slice (some ad132) l0_0.length c0_0) := (blk_cell BK131.out 0).trans rfl
             have hfz23_0 := blk_frozen BK131.out 0
             have p134 : 0 ≤ (x3_1 : Int) := of_decide_eq_true (by first | (with_reducible assumption) | assumption)
             have q134 : x3_1 < (l0_0.length : Int) := of_decide_eq_true (by first | (with_reducible assumption) | assumption)
             obtain ⟨ad134, A134_0, c134_0, e134, hx134_0, hl134_0, hi134_0⟩ := at_L7 HR0_0.out x3_1 p134 q134
             obtain rfl : ad132 = ad134 := (by injection e134)
             replace hx134_0 := cB_ HB.out hx134_0
             have HR134_0 := aM_ hi134_0
             have HC134_0 := aM_ hl134_0
             clear hi134_0 hl134_0
             replace p134 := eq_true p134
             replace q134 := eq_true q134
             go_wp2
             go_roundg k2
             case measure => have := HK1.out; have := HK2.out; omega
             case rel => exact ⟨(wrap64 (x3_1 + 1)), (by first | rfl | (simp; done) | (simp [*]; done)), H', ⟨by have := HK1.out; have := HK2.out; omega⟩, ⟨rW_ BK131.out⟩, ⟨gW_ HB.out⟩⟩
           ·rw [if_neg c12] at H
            exact absurd H (by simp)
          ·rw [if_neg c11] at H
           exact absurd H (by simp)
       ·replace c9 := Bool.eq_false_iff.mpr c9
        subst c9
        have H1 : (some false) = some r := by rw [if_neg (show ¬ (false = true) by decide)] at H; exact H
        clear H
        have H := H1
        clear H1
        obtain rfl := Option.some.inj H
        have hcz24_0 : wr.cell? ⟨gb131, 0, none⟩ = some (.slice A0_0 l0_0.length c0_0) := (blk_cell BK131.out 0).trans rfl
        have hfz24_0 := blk_frozen BK131.out 0
        have p132 : 0 ≤ (x3_1 : Int) := of_decide_eq_true (by first | (with_reducible assumption) | assumption)
        have q132 : x3_1 < (l0_0.length : Int) := of_decide_eq_true (by first | (with_reducible assumption) | assumption)
        obtain ⟨ad132, A132_0, c132_0, e132, hx132_0, hl132_0, hi132_0⟩ := at_L7 HR0_0.out x3_1 p132 q132
        cases e132
        replace hx132_0 := cB_ HB.out hx132_0
        have HR132_0 := aM_ hi132_0
        have HC132_0 := aM_ hl132_0
        clear hi132_0 hl132_0
        replace p132 := eq_true p132
        replace q132 := eq_true q132
        go_wp2_with (first | ((with_reducible refine gate_callee (f := 111) rfl ?_); refine gL_ (some 19) Try.func111 #[.int .i64 ((rd_L7 l0_0 x3_1).length : Int), .int .i64 1, .int .i64 4000] ?_; (with_reducible refine (spec_l1In.calls ((rd_L7 l0_0 x3_1).length : Int) 1 4000 false _ A8.out).mono ?_); rintro e w' ⟨rfl, ⟨nd, rfl⟩⟩; refine ⟨_, rfl, ?_⟩))
        go_ret
        exact fI_ HB.out
      ·rw [if_neg c7] at H
       exact absurd H (by simp)
     ·rw [if_neg c6] at H
      exact absurd H (by simp)
    ·rw [if_neg c5] at H
     have c5b0 : decide (x3_1 < 24) = false := decide_eq_false c5
     clear c5
     obtain rfl := Option.some.inj H
     go_wp2
     go_ret
     exact fI_ HB.out
 ·rw [if_neg c2] at H
  have c2b0 : ((l0_0.length : Int) == 24) = false := beq_eq_false_iff_ne.mpr c2
  have c2b1 : ((l0_0.length : Int) != 24) = true := bne_iff_ne.mpr c2
  obtain rfl := Option.some.inj H
  go_enter Try.func116, Try.ntmps116
  go_wp2_with (first | ((with_reducible refine gate_dst (N := 1) rfl ?_); refine bX_ 1 (cs := #[.slice A0_0 l0_0.length c0_0]) (t := 57) ?_; intro gb131 hg w25 hbox hb; have BK131 := aM_ (hbox); have GE131 := aM_ (sZ_ hg HB.out); replace HB := aM_ (sT_ HB.out hb); clear hb hbox hg; have hcz26_0 : w25.cell? ⟨gb131, 0, none⟩ = some (.slice A0_0 l0_0.length c0_0) := (blk_cell BK131.out 0).trans rfl; have hfz26_0 := blk_frozen BK131.out 0))
  go_ret
  exact fI_ HB.out
def spec_l7Reg.f (a0 : Int) : Option (Bool) := (spec_l1In.f a0 0 7).bind fun t138 => (some t138)
set_option maxHeartbeats 8000000 in
set_option maxRecDepth 100000 in
theorem spec_l7Reg.calls (a0 : Int) (r : Bool) (w : World) (h : spec_l7Reg.f a0 = some r) :
  Calls Try.prog 186 #[.int .i64 a0] w fun e w' => e = .returned (.bool r) ∧ Drawn0 w w' := by
 have H : ((spec_l1In.f a0 0 7).bind fun t138 => (some t138)) = some r := h
 clear h
 replace H := Option.bind_eq_some_iff.mp H
 obtain ⟨t138, A20, H⟩ := H
 replace H : (some t138) = some r := H
 have A2 := aM_ A20
 clear A20
 obtain rfl := Option.some.inj H
 go_enter Try.func186, Try.ntmps186
 go_wp2_with (first | ((with_reducible refine gate_callee (f := 111) rfl ?_); refine gL_ (some 4) Try.func111 #[.int .i64 a0, .int .i64 0, .int .i64 7] ?_; (with_reducible refine (spec_l1In.calls a0 0 7 t138 _ A2.out).mono ?_); rintro e w' ⟨rfl, ⟨nd, rfl⟩⟩; refine ⟨_, rfl, ?_⟩))
 go_ret
 exact ⟨by first | rfl | (simp; done) | (simp [*]; done), by repeat (first | exact Drawn0.refl _ | apply Drawn0.step)⟩
end Go.Proofs.Ytobachfngmpeiaa.PFnExactMachineNew
