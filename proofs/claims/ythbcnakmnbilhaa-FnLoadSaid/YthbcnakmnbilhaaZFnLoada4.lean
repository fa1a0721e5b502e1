/- A part of the proof that the law FnLoad holds for every input: the words, functions and walks that its row needs, without a condition of their own. -/
import Derived.Test.YthbcnakmnbilhaaZFnLoada2
import Derived.Test.YthbcnakmnbilhaaZFnLoada3
import Derived.Test.YthbcnakmnbilhaaZFnLoads
namespace Go.Proofs.Ythbcnakmnbilhaa.PFnLoad
open Go.RowKit Go.Proofs.YthbcnakmnbilhaaW.PrintWords Go.Proofs.YthbcnakmnbilhaaW.PrintLast Go.Proofs.YthbcnakmnbilhaaW.PrintMore
attribute [local go_sem] max2_int min2_int max_two min_two max_three min_three max_four min_four   -- for this text's walks alone
set_option linter.unusedVariables false
set_option linter.unusedSimpArgs false
mutual
def spec_MemoryOk.l0 : Nat → Int → List (List (S43)) → Option (Bool)
  | 0,_,_ => none
  | k + 1,x3,x155000 => if x3 < 24 then (if 0 ≤ x3 then (if x3 < (x155000.length : Int) then ((spec_l1In.f ((rd_L4 x155000 x3).length : Int) 1 4000).bind fun t156 => (if t156 = true then (spec_MemoryOk.l1 k x3 0 x155000) else (some false))) else (none)) else (none)) else (some true)
def spec_MemoryOk.l1 : Nat → Int → Int → List (List (S43)) → Option (Bool)
  | 0,_,_,_ => none
  | k + 1,x3,x4,x155000 => if 0 ≤ x3 then (if x3 < (x155000.length : Int) then (if x4 < ((rd_L4 x155000 x3).length : Int) then (if 0 ≤ x4 then ((spec_ViewOk.f k x155000 ((rd_T43 (rd_L4 x155000 x3) x4).f1)).bind fun t160 => (if t160 = true then (spec_MemoryOk.l1 k x3 (wrap64 (x4 + 1)) x155000) else (some false))) else (none)) else (spec_MemoryOk.l0 k (wrap64 (x3 + 1)) x155000)) else (none)) else (none)
end
def spec_MemoryOk.f (k : Nat) (l0_0 : List (List (S43))) : Option (Bool) := if (l0_0.length : Int) = 24 then (spec_MemoryOk.l0 k 0 l0_0) else (some false)
def spec_MemoryOk.T11 : Bool × List (List Nat × List Nat) := (true,[([],[]),([],[]),([1],[1]),([],[]),([2,3],[2,3]),([4],[4]),([],[]),([5,6],[5,6]),([7],[7]),([8],[8]),([0,9],[0,9]),([10],[10])])
def spec_MemoryOk.B11 : List Nat := [0,0,2,0,14,30,0,126,254,510,1023,2047]
theorem spec_MemoryOk.tab11 : rtab .any (opsOf Try.f27 11) = spec_MemoryOk.T11 := by kernel_rfl
theorem spec_MemoryOk.bits11 : waitsOk spec_MemoryOk.T11.2 spec_MemoryOk.B11 = true := by kernel_rfl
set_option maxHeartbeats 8000000 in
set_option maxRecDepth 100000 in
theorem spec_MemoryOk.calls (k : Nat) (A0_0 : Option Addr) (c0_0 : Nat) (l0_0 : List (List (S43))) (r : Bool) (w : World) (hr0_0 : Kd.C (Kd.slice 43 k43) w A0_0 l0_0.length l0_0) (hc0_0 : l0_0.length ≤ c0_0) (h : spec_MemoryOk.f k l0_0 = some r) :
  Calls Try.prog 27 #[.agg #[.slice A0_0 l0_0.length c0_0]] w fun e w' => e = .returned (.bool r) ∧ Below w.heap.size w w' := by
 have hu24 := Try.underlying24
 have HR0_0 := aM_ hr0_0
 have HC0_0 := aM_ hc0_0
 clear hr0_0 hc0_0
 have HB := aM_ (Below.refl w.heap.size w)
 have H : (if (l0_0.length : Int) = 24 then (spec_MemoryOk.l0 k 0 l0_0) else (some false)) = some r := h
 clear h
 by_cases c2 : (l0_0.length : Int) = 24
 ·rw [if_pos c2] at H
  have c2b0 : ((l0_0.length : Int) == 24) = true := beq_iff_eq.mpr c2
  have c2b1 : ((l0_0.length : Int) != 24) = false := bne_eq_false_iff_eq.mpr c2
  clear c2
  have H' := aM_ H
  clear H
  go_enter Try.func27,Try.ntmps27
  go_wp2_with (first | ((with_reducible refine gate_dst (N := 1) rfl ?_);refine bX_ 1 (cs := #[.slice A0_0 l0_0.length c0_0]) (t := 24) ?_;intro gb154 hg w3 hbox hb;have n0 := aM_ (sT_ HB.out hb);have n1 := aM_ (hbox);have n2 := aM_ (sZ_ hg HB.out);have n3 := aM_ (sZ_ hg HB.out);clear HB;have HB := n0;have BK154 := n1;have GW154 := n2;have GE154 := n3;clear n0 n1 n2 n3;clear hb hbox hg;have hcz4_0 : w3.cell? ⟨gb154,0,none⟩ = some (.slice A0_0 l0_0.length c0_0) := (blk_cell BK154.out 0).trans rfl;have hfz4_0 := blk_frozen BK154.out 0))
  go_loopg [3] k (fun kq v3 w' => ∃ (x3_1 : Int),v3 = .int .i64 x3_1 ∧ Aside0 (spec_MemoryOk.l0 kq x3_1 l0_0 = some r) ∧ Aside0 (kq ≤ k) ∧ Aside0 (w'.heap[gb154]? = some (.cells #[(.slice A0_0 l0_0.length c0_0)] 24 (0,0))) ∧ Aside0 (Below w.heap.size w w'))
  case atStart => exact ⟨(0),(by first | rfl | (simp;done) | (simp [*];done)),H',⟨Nat.le_refl _⟩,⟨rW_ BK154.out⟩,⟨gW_ HB.out⟩⟩
  case round =>
   clear H'
   try clear c2
   try clear c2b0
   try clear c2b1
   try clear p2
   try clear hcz4_0 hfz4_0
   obtain ⟨x3_1,rfl,HA,HK1,BK154,HB⟩ := hrel
   cases gk with
   | zero => exact absurd HA.out (by simp [spec_MemoryOk.l0])
   | succ k1 =>
    have H := HA.out
    clear HA
    simp only [spec_MemoryOk.l0] at H
    by_cases c5 : x3_1 < 24
    ·rw [if_pos c5] at H
     have c5b0 : decide (x3_1 < 24) = true := decide_eq_true c5
     clear c5
     by_cases c6 : 0 ≤ x3_1
     ·rw [if_pos c6] at H
      have c6b0 : decide (0 ≤ x3_1) = true := decide_eq_true c6
      clear c6
      by_cases c7 : x3_1 < (l0_0.length : Int)
      ·rw [if_pos c7] at H
       have c7b0 : decide (x3_1 < (l0_0.length : Int)) = true := decide_eq_true c7
       clear c7
       replace H := Option.bind_eq_some_iff.mp H
       obtain ⟨t156,A80,H⟩ := H
       replace H : (if t156 = true then (spec_MemoryOk.l1 k1 x3_1 0 l0_0) else (some false)) = some r := H
       have A8 := aM_ A80
       clear A80
       by_cases c9 : t156 = true
       ·subst c9
        have H1 : (spec_MemoryOk.l1 k1 x3_1 0 l0_0) = some r := by rw [if_pos rfl] at H;exact H
        clear H
        have H := H1
        clear H1
        have H' := aM_ H
        clear H
        have hcz10_0 : wr.cell? ⟨gb154,0,none⟩ = some (.slice A0_0 l0_0.length c0_0) := (blk_cell BK154.out 0).trans rfl
        have hfz10_0 := blk_frozen BK154.out 0
        have p155 : 0 ≤ (x3_1 : Int) := of_decide_eq_true (by first | (with_reducible assumption) | assumption)
        have q155 : x3_1 < (l0_0.length : Int) := of_decide_eq_true (by first | (with_reducible assumption) | assumption)
        obtain ⟨ad155,A155_0,c155_0,e155,hx155_0,hl155_0,hi155_0⟩ := at_L4 HR0_0.out x3_1 p155 q155
        cases e155
        replace hx155_0 := cB_ HB.out hx155_0
        have HR155_0 := aM_ hi155_0
        have HC155_0 := aM_ hl155_0
        clear hi155_0 hl155_0
        replace p155 := eq_true p155
        replace q155 := eq_true q155
        go_wp2_with (first | ((with_reducible refine gate_callee (f := 69) rfl ?_);refine gL_ (some 19) Try.func69 #[.int .i64 ((rd_L4 l0_0 x3_1).length : Int),.int .i64 1,.int .i64 4000] ?_;(with_reducible refine (spec_l1In.calls ((rd_L4 l0_0 x3_1).length : Int) 1 4000 true _ A8.out).mono ?_);rintro e w' ⟨rfl,⟨nd,rfl⟩⟩;refine ⟨_,rfl,?_⟩))
        go_loopg [4] k1 (fun kq v4 w' => ∃ (x4_2 : Int),v4 = .int .i64 x4_2 ∧ Aside0 (spec_MemoryOk.l1 kq x3_1 x4_2 l0_0 = some r) ∧ Aside0 (kq ≤ k1) ∧ Aside0 (w'.heap[gb154]? = some (.cells #[(.slice (some ad155) l0_0.length c0_0)] 24 (0,0))) ∧ Aside0 (Below w.heap.size w w'))
        case atStart => exact ⟨(0),(by first | rfl | (simp;done) | (simp [*];done)),H',⟨Nat.le_refl _⟩,⟨rW_ BK154.out⟩,⟨gW_ HB.out⟩⟩
        case round =>
         clear H'
         try clear c1
         try clear p1
         try clear q1
         try clear hx1
         try clear c2
         try clear c2b0
         try clear c2b1
         try clear p2
         try clear c5
         try clear c5b0
         try clear c6
         try clear c6b0
         try clear c7
         try clear c7b0
         try clear c9
         try clear hcz10_0 hfz10_0
         try clear hcz4_0 hfz4_0
         try clear hx155_0
         try clear p155
         try clear p2
         try clear q155
         obtain ⟨x4_2,rfl,HA,HK2,BK154,HB⟩ := hrel
         cases gk with
         | zero => exact absurd HA.out (by simp [spec_MemoryOk.l1])
         | succ k2 =>
          have H := HA.out
          clear HA
          simp only [spec_MemoryOk.l1] at H
          by_cases c11 : 0 ≤ x3_1
          ·rw [if_pos c11] at H
           have c11b0 : decide (0 ≤ x3_1) = true := decide_eq_true c11
           clear c11
           by_cases c12 : x3_1 < (l0_0.length : Int)
           ·rw [if_pos c12] at H
            have c12b0 : decide (x3_1 < (l0_0.length : Int)) = true := decide_eq_true c12
            clear c12
            by_cases c13 : x4_2 < ((rd_L4 l0_0 x3_1).length : Int)
            ·rw [if_pos c13] at H
             have c13b0 : decide (x4_2 < ((rd_L4 l0_0 x3_1).length : Int)) = true := decide_eq_true c13
             clear c13
             by_cases c14 : 0 ≤ x4_2
             ·rw [if_pos c14] at H
              have c14b0 : decide (0 ≤ x4_2) = true := decide_eq_true c14
              clear c14
              replace H := Option.bind_eq_some_iff.mp H
              obtain ⟨t160,A150,H⟩ := H
              replace H : (if t160 = true then (spec_MemoryOk.l1 k2 x3_1 (wrap64 (x4_2 + 1)) l0_0) else (some false)) = some r := H
              have A15 := aM_ A150
              clear A150
              by_cases c16 : t160 = true
              ·subst c16
               have H1 : (spec_MemoryOk.l1 k2 x3_1 (wrap64 (x4_2 + 1)) l0_0) = some r := by rw [if_pos rfl] at H;exact H
               clear H
               have H := H1
               clear H1
               have H' := aM_ H
               clear H
               have hcz17_0 : wr.cell? ⟨gb154,0,none⟩ = some (.slice (some ad155) l0_0.length c0_0) := (blk_cell BK154.out 0).trans rfl
               have hfz17_0 := blk_frozen BK154.out 0
               have p157 : 0 ≤ (x3_1 : Int) := of_decide_eq_true (by first | (with_reducible assumption) | assumption)
               have q157 : x3_1 < (l0_0.length : Int) := of_decide_eq_true (by first | (with_reducible assumption) | assumption)
               obtain ⟨ad157,A157_0,c157_0,e157,hx157_0,hl157_0,hi157_0⟩ := at_L4 HR0_0.out x3_1 p157 q157
               obtain rfl : ad155 = ad157 := (by injection e157)
               replace hx157_0 := cB_ HB.out hx157_0
               have HR157_0 := aM_ hi157_0
               have HC157_0 := aM_ hl157_0
               clear hi157_0 hl157_0
               replace p157 := eq_true p157
               replace q157 := eq_true q157
               try go_wp2
               have n0 := aM_ (blk_drew BK154.out)
               have n1 := aM_ (below_drew1 HB.out)
               clear BK154
               clear HB
               have BK154 := n0
               have HB := n1
               clear n0 n1
               have p158 : 0 ≤ (x3_1 : Int) := of_decide_eq_true (by first | (with_reducible assumption) | assumption)
               have q158 : x3_1 < (l0_0.length : Int) := of_decide_eq_true (by first | (with_reducible assumption) | assumption)
               obtain ⟨ad158,A158_0,c158_0,e158,hx158_0,hl158_0,hi158_0⟩ := at_L4 HR0_0.out x3_1 p158 q158
               have hw158_0 := hx158_0
               obtain rfl : ad155 = ad158 := (by injection e158)
               replace hx158_0 := cB_ HB.out hx158_0
               have HR158_0 := aM_ hi158_0
               have HC158_0 := aM_ hl158_0
               clear hi158_0 hl158_0
               replace p158 := eq_true p158
               replace q158 := eq_true q158
               have p159 : 0 ≤ (x4_2 : Int) := of_decide_eq_true (by first | (with_reducible assumption) | assumption)
               have q159 : x4_2 < ((rd_L4 l0_0 x3_1).length : Int) := of_decide_eq_true (by first | (with_reducible assumption) | assumption)
               obtain ⟨ad159,A159_1,c159_1,e159,hx159_0,hx159_1,hl159_1,hi159_1⟩ := at_T43 HR158_0.out x4_2 p159 q159
               have hw159_1 := hx159_1
               have hw159_0 := hx159_0
               cases e159
               replace hx159_0 := cB_ HB.out hx159_0
               replace hx159_1 := cB_ HB.out hx159_1
               have HR159_1 := aM_ hi159_1
               have HC159_1 := aM_ hl159_1
               clear hi159_1 hl159_1
               replace p159 := eq_true p159
               replace q159 := eq_true q159
               refine start_ (n := 12) (S := fun w' => w'.cell? ⟨gb154,0,none⟩ = some (.slice (some ad155) l0_0.length c0_0) ∧ w'.cell? (ad155.add (x3_1).toNat) = some (.slice (some ad159) (rd_L4 l0_0 x3_1).length c158_0) ∧ w'.cell? (ad159.add ((x4_2).toNat * 2)) = some (.int .i64 ((rd_T43 (rd_L4 l0_0 x3_1) x4_2).f0)) ∧ w'.cell? ⟨(ad159.add ((x4_2).toNat * 2)).block,(ad159.add ((x4_2).toNat * 2)).off + 1,none⟩ = some (.slice A159_1 ((rd_T43 (rd_L4 l0_0 x3_1) x4_2).f1).length c159_1)) (ds := []) (mk_ 12 0) (by kernel_rfl) rfl rfl ⟨(blk_cell BK154.out 0).trans rfl,(cB_ HB.out hw158_0 :),(cB_ HB.out hw159_0 :),(cB_ HB.out hw159_1 :)⟩ (fun hHeld => ?_);refine with_tabW spec_MemoryOk.tab11 spec_MemoryOk.bits11 (fun HT_ HW_ => ?_)
               generalize wr.drew = w18 at BK154 HB HR158_0 HR159_1 hx158_0 hx159_0 hx159_1 hHeld ⊢
               refine pU_ 1 (some 32) (mk_ 12 2) ?_
               refine pU_ 3 (some 34) (mk_ 12 10) ?_
               refine pU_ 6 (some 37) (mk_ 12 74) ?_
               refine tK4_ 0 (some 31) (mk_ 12 75) ?_
               refine tK4_ 2 (some 33) (mk_ 12 79) ?_
               refine pU_ 4 (some 35) (mk_ 12 95) ?_
               refine tK4_ 5 (some 36) (mk_ 12 127) ?_
               refine pU_ 7 (some 38) (mk_ 12 255) ?_
               refine pU_ 8 (some 39) (mk_ 12 511) ?_
               refine tK4_ 9 (some 40) (mk_ 12 1023) ?_
               refine oN_ 10 (some 41) (mk_ 12 2047) (fun K hK => ?_)
               refine gO_ Try.func29 #[.agg #[.slice (some ad155) l0_0.length c0_0],.slice A159_1 ((rd_T43 (rd_L4 l0_0 x3_1) x4_2).f1).length c159_1] ?_
               with_reducible refine (spec_ViewOk.calls k2 _ _ l0_0 _ _ ((rd_T43 (rd_L4 l0_0 x3_1) x4_2).f1) true _ ?side1 ?side2 ?side3 ?side4 A15.out).mono ?_
               (case side1 => exact cS_ (Kd.C_below HR0_0.out HB.out))
               (case side2 => exact HC0_0.out)
               (case side3 => exact cS_ (Kd.C_below HR159_1.out HB.out))
               (case side4 => exact HC159_1.out)
               rintro e w19 ⟨rfl,hb⟩
               refine ⟨_,rfl,?_⟩
               have n0 := aM_ (nB_ BK154.out hb)
               have n1 := aM_ (sT_ HB.out hb)
               clear BK154
               clear HB
               have BK154 := n0
               have HB := n1
               clear n0 n1
               (try clear hb)
               (try clear hb2)
               (try clear hk)
               (try clear hi)
               refine hK.out _ _ ⟨(blk_cell BK154.out 0).trans rfl,(cB_ HB.out hw158_0 :),(cB_ HB.out hw159_0 :),(cB_ HB.out hw159_1 :)⟩ (fun hHeld => ?_)
               clear hK K
               refine norm_ (a' := ?_) ?_ ?_
               rotate_left
               ·show Act.put _ (some 41) _ = _
                simp only [pt_,pn_,sI_,s0_,s1_,i64_w,i32_w]
                rfl
               refine pU_ 11 (some 42) (mk_ 12 4095) ?_
               refine done_ (done_of HT_.out (by kernel_rfl)) ?_
               try go_wp2
               go_roundg k2
               case measure => have := HK1.out;have := HK2.out;omega
               case rel => exact ⟨(wrap64 (x4_2 + 1)),(by first | rfl | (simp;done) | (simp [*];done)),H',⟨by have := HK1.out;have := HK2.out;omega⟩,⟨rW_ BK154.out⟩,⟨gW_ HB.out⟩⟩
              ·replace c16 := Bool.eq_false_iff.mpr c16
               subst c16
               have H1 : (some false) = some r := by rw [if_neg (show ¬ (false = true) by decide)] at H;exact H
               clear H
               have H := H1
               clear H1
               obtain rfl := Option.some.inj H
               have hcz20_0 : wr.cell? ⟨gb154,0,none⟩ = some (.slice (some ad155) l0_0.length c0_0) := (blk_cell BK154.out 0).trans rfl
               have hfz20_0 := blk_frozen BK154.out 0
               have p157 : 0 ≤ (x3_1 : Int) := of_decide_eq_true (by first | (with_reducible assumption) | assumption)
               have q157 : x3_1 < (l0_0.length : Int) := of_decide_eq_true (by first | (with_reducible assumption) | assumption)
               obtain ⟨ad157,A157_0,c157_0,e157,hx157_0,hl157_0,hi157_0⟩ := at_L4 HR0_0.out x3_1 p157 q157
               obtain rfl : ad155 = ad157 := (by injection e157)
               replace hx157_0 := cB_ HB.out hx157_0
               have HR157_0 := aM_ hi157_0
               have HC157_0 := aM_ hl157_0
               clear hi157_0 hl157_0
               replace p157 := eq_true p157
               replace q157 := eq_true q157
               try go_wp2
               have n0 := aM_ (blk_drew BK154.out)
               have n1 := aM_ (below_drew1 HB.out)
               clear BK154
               clear HB
               have BK154 := n0
               have HB := n1
               clear n0 n1
               have p158 : 0 ≤ (x3_1 : Int) := of_decide_eq_true (by first | (with_reducible assumption) | assumption)
               have q158 : x3_1 < (l0_0.length : Int) := of_decide_eq_true (by first | (with_reducible assumption) | assumption)
               obtain ⟨ad158,A158_0,c158_0,e158,hx158_0,hl158_0,hi158_0⟩ := at_L4 HR0_0.out x3_1 p158 q158
               have hw158_0 := hx158_0
               obtain rfl : ad155 = ad158 := (by injection e158)
               replace hx158_0 := cB_ HB.out hx158_0
               have HR158_0 := aM_ hi158_0
               have HC158_0 := aM_ hl158_0
               clear hi158_0 hl158_0
               replace p158 := eq_true p158
               replace q158 := eq_true q158
               have p159 : 0 ≤ (x4_2 : Int) := of_decide_eq_true (by first | (with_reducible assumption) | assumption)
               have q159 : x4_2 < ((rd_L4 l0_0 x3_1).length : Int) := of_decide_eq_true (by first | (with_reducible assumption) | assumption)
               obtain ⟨ad159,A159_1,c159_1,e159,hx159_0,hx159_1,hl159_1,hi159_1⟩ := at_T43 HR158_0.out x4_2 p159 q159
               have hw159_1 := hx159_1
               have hw159_0 := hx159_0
               cases e159
               replace hx159_0 := cB_ HB.out hx159_0
               replace hx159_1 := cB_ HB.out hx159_1
               have HR159_1 := aM_ hi159_1
               have HC159_1 := aM_ hl159_1
               clear hi159_1 hl159_1
               replace p159 := eq_true p159
               replace q159 := eq_true q159
               refine start_ (n := 12) (S := fun w' => w'.cell? ⟨gb154,0,none⟩ = some (.slice (some ad155) l0_0.length c0_0) ∧ w'.cell? (ad155.add (x3_1).toNat) = some (.slice (some ad159) (rd_L4 l0_0 x3_1).length c158_0) ∧ w'.cell? (ad159.add ((x4_2).toNat * 2)) = some (.int .i64 ((rd_T43 (rd_L4 l0_0 x3_1) x4_2).f0)) ∧ w'.cell? ⟨(ad159.add ((x4_2).toNat * 2)).block,(ad159.add ((x4_2).toNat * 2)).off + 1,none⟩ = some (.slice A159_1 ((rd_T43 (rd_L4 l0_0 x3_1) x4_2).f1).length c159_1)) (ds := []) (mk_ 12 0) (by kernel_rfl) rfl rfl ⟨(blk_cell BK154.out 0).trans rfl,(cB_ HB.out hw158_0 :),(cB_ HB.out hw159_0 :),(cB_ HB.out hw159_1 :)⟩ (fun hHeld => ?_);refine with_tabW spec_MemoryOk.tab11 spec_MemoryOk.bits11 (fun HT_ HW_ => ?_)
               generalize wr.drew = w21 at BK154 HB HR158_0 HR159_1 hx158_0 hx159_0 hx159_1 hHeld ⊢
               refine pU_ 1 (some 32) (mk_ 12 2) ?_
               refine pU_ 3 (some 34) (mk_ 12 10) ?_
               refine pU_ 6 (some 37) (mk_ 12 74) ?_
               refine tK4_ 0 (some 31) (mk_ 12 75) ?_
               refine tK4_ 2 (some 33) (mk_ 12 79) ?_
               refine pU_ 4 (some 35) (mk_ 12 95) ?_
               refine tK4_ 5 (some 36) (mk_ 12 127) ?_
               refine pU_ 7 (some 38) (mk_ 12 255) ?_
               refine pU_ 8 (some 39) (mk_ 12 511) ?_
               refine tK4_ 9 (some 40) (mk_ 12 1023) ?_
               refine oN_ 10 (some 41) (mk_ 12 2047) (fun K hK => ?_)
               refine gO_ Try.func29 #[.agg #[.slice (some ad155) l0_0.length c0_0],.slice A159_1 ((rd_T43 (rd_L4 l0_0 x3_1) x4_2).f1).length c159_1] ?_
               with_reducible refine (spec_ViewOk.calls k2 _ _ l0_0 _ _ ((rd_T43 (rd_L4 l0_0 x3_1) x4_2).f1) false _ ?side1 ?side2 ?side3 ?side4 A15.out).mono ?_
               (case side1 => exact cS_ (Kd.C_below HR0_0.out HB.out))
               (case side2 => exact HC0_0.out)
               (case side3 => exact cS_ (Kd.C_below HR159_1.out HB.out))
               (case side4 => exact HC159_1.out)
               rintro e w22 ⟨rfl,hb⟩
               refine ⟨_,rfl,?_⟩
               have n0 := aM_ (nB_ BK154.out hb)
               have n1 := aM_ (sT_ HB.out hb)
               clear BK154
               clear HB
               have BK154 := n0
               have HB := n1
               clear n0 n1
               (try clear hb)
               (try clear hb2)
               (try clear hk)
               (try clear hi)
               refine hK.out _ _ ⟨(blk_cell BK154.out 0).trans rfl,(cB_ HB.out hw158_0 :),(cB_ HB.out hw159_0 :),(cB_ HB.out hw159_1 :)⟩ (fun hHeld => ?_)
               clear hK K
               refine norm_ (a' := ?_) ?_ ?_
               rotate_left
               ·show Act.put _ (some 41) _ = _
                simp only [pt_,pn_,sI_,s0_,s1_,i64_w,i32_w]
                rfl
               refine pU_ 11 (some 42) (mk_ 12 4095) ?_
               refine done_ (done_of HT_.out (by kernel_rfl)) ?_
               try go_wp2
               go_ret
               exact fI_ HB.out
             ·rw [if_neg c14] at H
              exact absurd H (by simp)
            ·rw [if_neg c13] at H
             have c13b0 : decide (x4_2 < ((rd_L4 l0_0 x3_1).length : Int)) = false := decide_eq_false c13
             clear c13
             have H' := aM_ H
             clear H
             have hcz23_0 : wr.cell? ⟨gb154,0,none⟩ = some (.slice (some ad155) l0_0.length c0_0) := (blk_cell BK154.out 0).trans rfl
             have hfz23_0 := blk_frozen BK154.out 0
             have p157 : 0 ≤ (x3_1 : Int) := of_decide_eq_true (by first | (with_reducible assumption) | assumption)
             have q157 : x3_1 < (l0_0.length : Int) := of_decide_eq_true (by first | (with_reducible assumption) | assumption)
             obtain ⟨ad157,A157_0,c157_0,e157,hx157_0,hl157_0,hi157_0⟩ := at_L4 HR0_0.out x3_1 p157 q157
             obtain rfl : ad155 = ad157 := (by injection e157)
             replace hx157_0 := cB_ HB.out hx157_0
             have HR157_0 := aM_ hi157_0
             have HC157_0 := aM_ hl157_0
             clear hi157_0 hl157_0
             replace p157 := eq_true p157
             replace q157 := eq_true q157
             go_wp2
             go_roundg k2
             case measure => have := HK1.out;have := HK2.out;omega
             case rel => exact ⟨(wrap64 (x3_1 + 1)),(by first | rfl | (simp;done) | (simp [*];done)),H',⟨by have := HK1.out;have := HK2.out;omega⟩,⟨rW_ BK154.out⟩,⟨gW_ HB.out⟩⟩
           ·rw [if_neg c12] at H
            exact absurd H (by simp)
          ·rw [if_neg c11] at H
           exact absurd H (by simp)
       ·replace c9 := Bool.eq_false_iff.mpr c9
        subst c9
        have H1 : (some false) = some r := by rw [if_neg (show ¬ (false = true) by decide)] at H;exact H
        clear H
        have H := H1
        clear H1
        obtain rfl := Option.some.inj H
        have hcz24_0 : wr.cell? ⟨gb154,0,none⟩ = some (.slice A0_0 l0_0.length c0_0) := (blk_cell BK154.out 0).trans rfl
        have hfz24_0 := blk_frozen BK154.out 0
        have p155 : 0 ≤ (x3_1 : Int) := of_decide_eq_true (by first | (with_reducible assumption) | assumption)
        have q155 : x3_1 < (l0_0.length : Int) := of_decide_eq_true (by first | (with_reducible assumption) | assumption)
        obtain ⟨ad155,A155_0,c155_0,e155,hx155_0,hl155_0,hi155_0⟩ := at_L4 HR0_0.out x3_1 p155 q155
        cases e155
        replace hx155_0 := cB_ HB.out hx155_0
        have HR155_0 := aM_ hi155_0
        have HC155_0 := aM_ hl155_0
        clear hi155_0 hl155_0
        replace p155 := eq_true p155
        replace q155 := eq_true q155
        go_wp2_with (first | ((with_reducible refine gate_callee (f := 69) rfl ?_);refine gL_ (some 19) Try.func69 #[.int .i64 ((rd_L4 l0_0 x3_1).length : Int),.int .i64 1,.int .i64 4000] ?_;(with_reducible refine (spec_l1In.calls ((rd_L4 l0_0 x3_1).length : Int) 1 4000 false _ A8.out).mono ?_);rintro e w' ⟨rfl,⟨nd,rfl⟩⟩;refine ⟨_,rfl,?_⟩))
        go_ret
        exact fI_ HB.out
      ·rw [if_neg c7] at H
       exact absurd H (by simp)
     ·rw [if_neg c6] at H
      exact absurd H (by simp)
    ·rw [if_neg c5] at H
     have c5b0 : decide (x3_1 < 24) = false := decide_eq_false c5
     clear c5
     obtain rfl := Option.some.inj H
     go_wp2
     go_ret
     exact fI_ HB.out
 ·rw [if_neg c2] at H
  have c2b0 : ((l0_0.length : Int) == 24) = false := beq_eq_false_iff_ne.mpr c2
  have c2b1 : ((l0_0.length : Int) != 24) = true := bne_iff_ne.mpr c2
  obtain rfl := Option.some.inj H
  go_enter Try.func27,Try.ntmps27
  go_wp2_with (first | ((with_reducible refine gate_dst (N := 1) rfl ?_);refine bX_ 1 (cs := #[.slice A0_0 l0_0.length c0_0]) (t := 24) ?_;intro gb154 hg w25 hbox hb;have n0 := aM_ (sT_ HB.out hb);have n1 := aM_ (hbox);have n2 := aM_ (sZ_ hg HB.out);have n3 := aM_ (sZ_ hg HB.out);clear HB;have HB := n0;have BK154 := n1;have GW154 := n2;have GE154 := n3;clear n0 n1 n2 n3;clear hb hbox hg;have hcz26_0 : w25.cell? ⟨gb154,0,none⟩ = some (.slice A0_0 l0_0.length c0_0) := (blk_cell BK154.out 0).trans rfl;have hfz26_0 := blk_frozen BK154.out 0))
  go_ret
  exact fI_ HB.out
def spec_l6Right.f (k : Nat) (l0_0 : List (List (S43))) (l1 : List Int) (a2 : Int) : Option (Bool) := (spec_MemoryOk.f k l0_0).bind fun t162 => (if t162 = true then ((spec_ViewOk.f k l0_0 l1).bind fun t163 => (if t163 = true then ((spec_l1In.f a2 0 23).bind fun t164 => (some t164)) else (some false))) else (some false))
set_option maxHeartbeats 8000000 in
set_option maxRecDepth 100000 in
theorem spec_l6Right.calls (k : Nat) (A0_0 : Option Addr) (c0_0 : Nat) (l0_0 : List (List (S43))) (A1 : Option Addr) (c1 : Nat) (l1 : List Int) (a2 : Int) (r : Bool) (w : World) (hr0_0 : Kd.C (Kd.slice 43 k43) w A0_0 l0_0.length l0_0) (hc0_0 : l0_0.length ≤ c0_0) (hr1 : Kd.C (Kd.int .i64) w A1 l1.length l1) (hc1 : l1.length ≤ c1) (h : spec_l6Right.f k l0_0 l1 a2 = some r) :
  Calls Try.prog 61 #[.agg #[.slice A0_0 l0_0.length c0_0],.slice A1 l1.length c1,.int .i64 a2] w fun e w' => e = .returned (.bool r) ∧ Below w.heap.size w w' := by
 have hu24 := Try.underlying24
 have HR0_0 := aM_ hr0_0
 have HC0_0 := aM_ hc0_0
 clear hr0_0 hc0_0
 have HR1 := aM_ hr1
 have HC1 := aM_ hc1
 clear hr1 hc1
 have HB := aM_ (Below.refl w.heap.size w)
 have H : ((spec_MemoryOk.f k l0_0).bind fun t162 => (if t162 = true then ((spec_ViewOk.f k l0_0 l1).bind fun t163 => (if t163 = true then ((spec_l1In.f a2 0 23).bind fun t164 => (some t164)) else (some false))) else (some false))) = some r := h
 clear h
 replace H := Option.bind_eq_some_iff.mp H
 obtain ⟨t162,A40,H⟩ := H
 replace H : (if t162 = true then ((spec_ViewOk.f k l0_0 l1).bind fun t163 => (if t163 = true then ((spec_l1In.f a2 0 23).bind fun t164 => (some t164)) else (some false))) else (some false)) = some r := H
 have A4 := aM_ A40
 clear A40
 by_cases c5 : t162 = true
 ·subst c5
  have H1 : ((spec_ViewOk.f k l0_0 l1).bind fun t163 => (if t163 = true then ((spec_l1In.f a2 0 23).bind fun t164 => (some t164)) else (some false))) = some r := by rw [if_pos rfl] at H;exact H
  clear H
  have H := H1
  clear H1
  replace H := Option.bind_eq_some_iff.mp H
  obtain ⟨t163,A60,H⟩ := H
  replace H : (if t163 = true then ((spec_l1In.f a2 0 23).bind fun t164 => (some t164)) else (some false)) = some r := H
  have A6 := aM_ A60
  clear A60
  by_cases c7 : t163 = true
  ·subst c7
   have H1 : ((spec_l1In.f a2 0 23).bind fun t164 => (some t164)) = some r := by rw [if_pos rfl] at H;exact H
   clear H
   have H := H1
   clear H1
   replace H := Option.bind_eq_some_iff.mp H
   obtain ⟨t164,A80,H⟩ := H
   replace H : (some t164) = some r := H
   have A8 := aM_ A80
   clear A80
   obtain rfl := Option.some.inj H
   go_enter Try.func61,Try.ntmps61
   go_wp2_with (first | ((with_reducible refine gate_dst (N := 3) rfl ?_);refine bX_ 3 (cs := #[.slice A0_0 l0_0.length c0_0]) (t := 24) ?_;intro gb161 hg w9 hbox hb;have n0 := aM_ (sT_ HB.out hb);have n1 := aM_ (hbox);have n2 := aM_ (sZ_ hg HB.out);have n3 := aM_ (sZ_ hg HB.out);clear HB;have HB := n0;have BK161 := n1;have GW161 := n2;have GE161 := n3;clear n0 n1 n2 n3;clear hb hbox hg;have hcz10_0 : w9.cell? ⟨gb161,0,none⟩ = some (.slice A0_0 l0_0.length c0_0) := (blk_cell BK161.out 0).trans rfl;have hfz10_0 := blk_frozen BK161.out 0) | ((with_reducible refine gate_callee (f := 27) rfl ?_);refine gL_ (some 8) Try.func27 #[.agg #[.slice A0_0 l0_0.length c0_0]] ?_;(with_reducible refine (spec_MemoryOk.calls k _ _ l0_0 true _ ?side1 ?side2 A4.out).mono ?_);(case side1 => exact cS_ (Kd.C_below HR0_0.out HB.out));(case side2 => exact HC0_0.out);rintro e w11 ⟨rfl,hb⟩;refine ⟨_,rfl,?_⟩;have n0 := aM_ (nB_ BK161.out hb);have n1 := aM_ (sT_ HB.out hb);clear BK161;clear HB;have BK161 := n0;have HB := n1;clear n0 n1;have hcz12_0 : w11.cell? ⟨gb161,0,none⟩ = some (.slice A0_0 l0_0.length c0_0) := (blk_cell BK161.out 0).trans rfl;have hfz12_0 := blk_frozen BK161.out 0) | (go_at_call 29;(with_reducible refine (spec_ViewOk.calls k _ _ l0_0 _ _ l1 true _ ?side1 ?side2 ?side3 ?side4 A6.out).mono ?_);(case side1 => exact cS_ (Kd.C_below HR0_0.out HB.out));(case side2 => exact HC0_0.out);(case side3 => exact cS_ (Kd.C_below HR1.out HB.out));(case side4 => exact HC1.out);rintro e w13 ⟨rfl,hb⟩;have n0 := aM_ (nB_ BK161.out hb);have n1 := aM_ (sT_ HB.out hb);clear BK161;clear HB;have BK161 := n0;have HB := n1;clear n0 n1) | (go_at_call 69;(with_reducible refine (spec_l1In.calls a2 0 23 t164 _ A8.out).mono ?_);rintro e w' ⟨rfl,⟨nd,rfl⟩⟩))
   go_ret
   exact fI_ HB.out
  ·replace c7 := Bool.eq_false_iff.mpr c7
   subst c7
   have H1 : (some false) = some r := by rw [if_neg (show ¬ (false = true) by decide)] at H;exact H
   clear H
   have H := H1
   clear H1
   obtain rfl := Option.some.inj H
   go_enter Try.func61,Try.ntmps61
   go_wp2_with (first | ((with_reducible refine gate_dst (N := 3) rfl ?_);refine bX_ 3 (cs := #[.slice A0_0 l0_0.length c0_0]) (t := 24) ?_;intro gb161 hg w14 hbox hb;have n0 := aM_ (sT_ HB.out hb);have n1 := aM_ (hbox);have n2 := aM_ (sZ_ hg HB.out);have n3 := aM_ (sZ_ hg HB.out);clear HB;have HB := n0;have BK161 := n1;have GW161 := n2;have GE161 := n3;clear n0 n1 n2 n3;clear hb hbox hg;have hcz15_0 : w14.cell? ⟨gb161,0,none⟩ = some (.slice A0_0 l0_0.length c0_0) := (blk_cell BK161.out 0).trans rfl;have hfz15_0 := blk_frozen BK161.out 0) | ((with_reducible refine gate_callee (f := 27) rfl ?_);refine gL_ (some 8) Try.func27 #[.agg #[.slice A0_0 l0_0.length c0_0]] ?_;(with_reducible refine (spec_MemoryOk.calls k _ _ l0_0 true _ ?side1 ?side2 A4.out).mono ?_);(case side1 => exact cS_ (Kd.C_below HR0_0.out HB.out));(case side2 => exact HC0_0.out);rintro e w16 ⟨rfl,hb⟩;refine ⟨_,rfl,?_⟩;have n0 := aM_ (nB_ BK161.out hb);have n1 := aM_ (sT_ HB.out hb);clear BK161;clear HB;have BK161 := n0;have HB := n1;clear n0 n1;have hcz17_0 : w16.cell? ⟨gb161,0,none⟩ = some (.slice A0_0 l0_0.length c0_0) := (blk_cell BK161.out 0).trans rfl;have hfz17_0 := blk_frozen BK161.out 0) | (go_at_call 29;(with_reducible refine (spec_ViewOk.calls k _ _ l0_0 _ _ l1 false _ ?side1 ?side2 ?side3 ?side4 A6.out).mono ?_);(case side1 => exact cS_ (Kd.C_below HR0_0.out HB.out));(case side2 => exact HC0_0.out);(case side3 => exact cS_ (Kd.C_below HR1.out HB.out));(case side4 => exact HC1.out);rintro e w18 ⟨rfl,hb⟩;have n0 := aM_ (nB_ BK161.out hb);have n1 := aM_ (sT_ HB.out hb);clear BK161;clear HB;have BK161 := n0;have HB := n1;clear n0 n1))
   go_ret
   exact fI_ HB.out
 ·replace c5 := Bool.eq_false_iff.mpr c5
  subst c5
  have H1 : (some false) = some r := by rw [if_neg (show ¬ (false = true) by decide)] at H;exact H
  clear H
  have H := H1
  clear H1
  obtain rfl := Option.some.inj H
  go_enter Try.func61,Try.ntmps61
  go_wp2_with (first | ((with_reducible refine gate_dst (N := 3) rfl ?_);refine bX_ 3 (cs := #[.slice A0_0 l0_0.length c0_0]) (t := 24) ?_;intro gb161 hg w19 hbox hb;have n0 := aM_ (sT_ HB.out hb);have n1 := aM_ (hbox);have n2 := aM_ (sZ_ hg HB.out);have n3 := aM_ (sZ_ hg HB.out);clear HB;have HB := n0;have BK161 := n1;have GW161 := n2;have GE161 := n3;clear n0 n1 n2 n3;clear hb hbox hg;have hcz20_0 : w19.cell? ⟨gb161,0,none⟩ = some (.slice A0_0 l0_0.length c0_0) := (blk_cell BK161.out 0).trans rfl;have hfz20_0 := blk_frozen BK161.out 0) | ((with_reducible refine gate_callee (f := 27) rfl ?_);refine gL_ (some 8) Try.func27 #[.agg #[.slice A0_0 l0_0.length c0_0]] ?_;(with_reducible refine (spec_MemoryOk.calls k _ _ l0_0 false _ ?side1 ?side2 A4.out).mono ?_);(case side1 => exact cS_ (Kd.C_below HR0_0.out HB.out));(case side2 => exact HC0_0.out);rintro e w21 ⟨rfl,hb⟩;refine ⟨_,rfl,?_⟩;have n0 := aM_ (nB_ BK161.out hb);have n1 := aM_ (sT_ HB.out hb);clear BK161;clear HB;have BK161 := n0;have HB := n1;clear n0 n1))
  go_ret
  exact fI_ HB.out
def spec_l1Max.f (a0 : Int) (a1 : Int) : Option (Int) := if a0 > a1 then (some a0) else (some a1)
set_option maxHeartbeats 8000000 in
set_option maxRecDepth 100000 in
theorem spec_l1Max.calls (a0 : Int) (a1 : Int) (r : Int) (w : World) (h : spec_l1Max.f a0 a1 = some r) :
  Calls Try.prog 95 #[.int .i64 a0,.int .i64 a1] w fun e w' => e = .returned (.int .i64 r) ∧ Drawn0 w w' := by
 have H : (if a0 > a1 then (some a0) else (some a1)) = some r := h
 clear h
 by_cases c3 : a0 > a1
 ·rw [if_pos c3] at H
  have c3b0 : decide (a1 < a0) = true := decide_eq_true c3
  clear c3
  obtain rfl := Option.some.inj H
  go_enter Try.func95,Try.ntmps95
  go_wp2
  go_ret
  exact ⟨by first | rfl | (simp;done) | (simp [*];done),by repeat (first | exact Drawn0.refl _ | apply Drawn0.step)⟩
 ·rw [if_neg c3] at H
  have c3b0 : decide (a1 < a0) = false := decide_eq_false c3
  clear c3
  obtain rfl := Option.some.inj H
  go_enter Try.func95,Try.ntmps95
  go_wp2
  go_ret
  exact ⟨by first | rfl | (simp;done) | (simp [*];done),by repeat (first | exact Drawn0.refl _ | apply Drawn0.step)⟩
end Go.Proofs.Ythbcnakmnbilhaa.PFnLoad
