/- A part of the proof that the law FnExactChanSame holds for every input: the words, functions and walks that its row needs, without a condition of their own. -/
import Derived.Test.YtobachfngmpeiaaZFnExactChanSamea2
import Derived.Test.YtobachfngmpeiaaZFnExactChanSamea13
import Derived.Test.YtobachfngmpeiaaZFnExactChanSames
namespace Go.Proofs.Ytobachfngmpeiaa.PFnExactChanSame
open Go.RowKit Go.Proofs.YtobachfngmpeiaaW.PrintWords Go.Proofs.YtobachfngmpeiaaW.PrintLast Go.Proofs.YtobachfngmpeiaaW.PrintMore
attribute [local go_sem] max2_int min2_int max_two min_two max_three min_three max_four min_four   -- for this text's walks alone
set_option linter.unusedVariables false
set_option linter.unusedSimpArgs false
mutual
def spec_MemoryOk.l0 : Nat → Int → List (List (S170)) → Option (Bool)
  | 0,_,_ => none
  | k + 1,x3,x308000 => if x3 < 24 then (if 0 ≤ x3 then (if x3 < (x308000.length : Int) then ((spec_l1In.f ((rd_L14 x308000 x3).length : Int) 1 4000).bind fun t309 => (if t309 = true then (spec_MemoryOk.l1 k x3 0 x308000) else (some false))) else (none)) else (none)) else (some true)
def spec_MemoryOk.l1 : Nat → Int → Int → List (List (S170)) → Option (Bool)
  | 0,_,_,_ => none
  | k + 1,x3,x4,x308000 => if 0 ≤ x3 then (if x3 < (x308000.length : Int) then (if x4 < ((rd_L14 x308000 x3).length : Int) then (if 0 ≤ x4 then ((spec_ViewOk.f k x308000 ((rd_T170 (rd_L14 x308000 x3) x4).f1)).bind fun t313 => (if t313 = true then (spec_MemoryOk.l1 k x3 (wrap64 (x4 + 1)) x308000) else (some false))) else (none)) else (spec_MemoryOk.l0 k (wrap64 (x3 + 1)) x308000)) else (none)) else (none)
end
def spec_MemoryOk.f (k : Nat) (l0_0 : List (List (S170))) : Option (Bool) := if (l0_0.length : Int) = 24 then (spec_MemoryOk.l0 k 0 l0_0) else (some false)
def spec_MemoryOk.T11 : Bool × List (List Nat × List Nat) := (true,[([],[]),([],[]),([1],[1]),([],[]),([2,3],[2,3]),([4],[4]),([],[]),([5,6],[5,6]),([7],[7]),([8],[8]),([0,9],[0,9]),([10],[10])])
def spec_MemoryOk.B11 : List Nat := [0,0,2,0,14,30,0,126,254,510,1023,2047]
theorem spec_MemoryOk.tab11 : rtab .any (opsOf Try.f116 11) = spec_MemoryOk.T11 := by kernel_rfl
theorem spec_MemoryOk.bits11 : waitsOk spec_MemoryOk.T11.2 spec_MemoryOk.B11 = true := by kernel_rfl
set_option maxHeartbeats 8000000 in
set_option maxRecDepth 100000 in
theorem spec_MemoryOk.calls (k : Nat) (A0_0 : Option Addr) (c0_0 : Nat) (l0_0 : List (List (S170))) (r : Bool) (w : World) (hr0_0 : Kd.C (Kd.slice 170 k170) w A0_0 l0_0.length l0_0) (hc0_0 : l0_0.length ≤ c0_0) (h : spec_MemoryOk.f k l0_0 = some r) :
  Calls Try.prog 116 #[.agg #[.slice A0_0 l0_0.length c0_0]] w fun e w' => e = .returned (.bool r) ∧ Below w.heap.size w w' := by
 have hu57 := Try.underlying57
 have HR0_0 := aM_ hr0_0
 have HC0_0 := aM_ hc0_0
 clear hr0_0 hc0_0
 have HB := aM_ (Below.refl w.heap.size w)
 have H : (if (l0_0.length : Int) = 24 then (spec_MemoryOk.l0 k 0 l0_0) else (some false)) = some r := h
 clear h
 by_cases c2 : (l0_0.length : Int) = 24
 ·rw [if_pos c2] at H
  have c2b0 : ((l0_0.length : Int) == 24) = true := beq_iff_eq.mpr c2
  have c2b1 : ((l0_0.length : Int) != 24) = false := bne_eq_false_iff_eq.mpr c2
  clear c2
  have H' := aM_ H
  clear H
  go_enter Try.func116,Try.ntmps116
  go_wp2_with (first | ((with_reducible refine gate_dst (N := 1) rfl ?_);refine bX_ 1 (cs := #[.slice A0_0 l0_0.length c0_0]) (t := 57) ?_;intro gb307 hg w3 hbox hb;have n0 := aM_ (sT_ HB.out hb);have n1 := aM_ (hbox);have n2 := aM_ (sZ_ hg HB.out);have n3 := aM_ (sZ_ hg HB.out);clear HB;have HB := n0;have BK307 := n1;have GW307 := n2;have GE307 := n3;clear n0 n1 n2 n3;clear hb hbox hg;have hcz4_0 : w3.cell? ⟨gb307,0,none⟩ = some (.slice A0_0 l0_0.length c0_0) := (blk_cell BK307.out 0).trans rfl;have hfz4_0 := blk_frozen BK307.out 0))
  go_loopg [3] k (fun kq v3 w' => ∃ (x3_1 : Int),v3 = .int .i64 x3_1 ∧ Aside0 (spec_MemoryOk.l0 kq x3_1 l0_0 = some r) ∧ Aside0 (kq ≤ k) ∧ Aside0 (w'.heap[gb307]? = some (.cells #[(.slice A0_0 l0_0.length c0_0)] 57 (0,0))) ∧ Aside0 (Below w.heap.size w w'))
  case atStart => exact ⟨(0),(by first | rfl | (simp;done) | (simp [*];done)),H',⟨Nat.le_refl _⟩,⟨rW_ BK307.out⟩,⟨gW_ HB.out⟩⟩
  case round =>
   clear H'
   try clear c1
   try clear c2
   try clear c2b0
   try clear c2b1
   try clear p2
   try clear hcz4_0 hfz4_0
   obtain ⟨x3_1,rfl,HA,HK1,BK307,HB⟩ := hrel
   cases gk with
   | zero => exact absurd HA.out (by simp [spec_MemoryOk.l0])
   | succ k1 =>
    have H := HA.out
    clear HA
    simp only [spec_MemoryOk.l0] at H
    by_cases c5 : x3_1 < 24
    ·rw [if_pos c5] at H
     have c5b0 : decide (x3_1 < 24) = true := decide_eq_true c5
     clear c5
     by_cases c6 : 0 ≤ x3_1
     ·rw [if_pos c6] at H
      have c6b0 : decide (0 ≤ x3_1) = true := decide_eq_true c6
      clear c6
      by_cases c7 : x3_1 < (l0_0.length : Int)
      ·rw [if_pos c7] at H
       have c7b0 : decide (x3_1 < (l0_0.length : Int)) = true := decide_eq_true c7
       clear c7
       replace H := Option.bind_eq_some_iff.mp H
       obtain ⟨t309,A80,H⟩ := H
       replace H : (if t309 = true then (spec_MemoryOk.l1 k1 x3_1 0 l0_0) else (some false)) = some r := H
       have A8 := aM_ A80
       clear A80
       by_cases c9 : t309 = true
       ·subst c9
        have H1 : (spec_MemoryOk.l1 k1 x3_1 0 l0_0) = some r := by rw [if_pos rfl] at H;exact H
        clear H
        have H := H1
        clear H1
        have H' := aM_ H
        clear H
        have hcz10_0 : wr.cell? ⟨gb307,0,none⟩ = some (.slice A0_0 l0_0.length c0_0) := (blk_cell BK307.out 0).trans rfl
        have hfz10_0 := blk_frozen BK307.out 0
        have p308 : 0 ≤ (x3_1 : Int) := of_decide_eq_true (by first | (with_reducible assumption) | assumption)
        have q308 : x3_1 < (l0_0.length : Int) := of_decide_eq_true (by first | (with_reducible assumption) | assumption)
        obtain ⟨ad308,A308_0,c308_0,e308,hx308_0,hl308_0,hi308_0⟩ := at_L14 HR0_0.out x3_1 p308 q308
        cases e308
        replace hx308_0 := cB_ HB.out hx308_0
        have HR308_0 := aM_ hi308_0
        have HC308_0 := aM_ hl308_0
        clear hi308_0 hl308_0
        replace p308 := eq_true p308
        replace q308 := eq_true q308
        go_wp2_with (first | ((with_reducible refine gate_callee (f := 111) rfl ?_);refine gL_ (some 19) Try.func111 #[.int .i64 ((rd_L14 l0_0 x3_1).length : Int),.int .i64 1,.int .i64 4000] ?_;(with_reducible refine (spec_l1In.calls ((rd_L14 l0_0 x3_1).length : Int) 1 4000 true _ A8.out).mono ?_);rintro e w' ⟨rfl,⟨nd,rfl⟩⟩;refine ⟨_,rfl,?_⟩))
        go_loopg [4] k1 (fun kq v4 w' => ∃ (x4_2 : Int),v4 = .int .i64 x4_2 ∧ Aside0 (spec_MemoryOk.l1 kq x3_1 x4_2 l0_0 = some r) ∧ Aside0 (kq ≤ k1) ∧ Aside0 (w'.heap[gb307]? = some (.cells #[(.slice (some ad308) l0_0.length c0_0)] 57 (0,0))) ∧ Aside0 (Below w.heap.size w w'))
        case atStart => exact ⟨(0),(by first | rfl | (simp;done) | (simp [*];done)),H',⟨Nat.le_refl _⟩,⟨rW_ BK307.out⟩,⟨gW_ HB.out⟩⟩
        case round =>
         clear H'
         try clear c1
         try clear c2
         try clear c2b0
         try clear c2b1
         try clear p2
         try clear c3
         try clear p3
         try clear q3
         try clear hx3
         try clear c5
         try clear c5b0
         try clear c6
         try clear c6b0
         try clear c7
         try clear c7b0
         try clear c9
         try clear hcz10_0 hfz10_0
         try clear hcz4_0 hfz4_0
         try clear hx308_0
         try clear p2
         try clear p308
         try clear q308
         obtain ⟨x4_2,rfl,HA,HK2,BK307,HB⟩ := hrel
         cases gk with
         | zero => exact absurd HA.out (by simp [spec_MemoryOk.l1])
         | succ k2 =>
          have H := HA.out
          clear HA
          simp only [spec_MemoryOk.l1] at H
          by_cases c11 : 0 ≤ x3_1
          ·rw [if_pos c11] at H
           have c11b0 : decide (0 ≤ x3_1) = true := decide_eq_true c11
           clear c11
           by_cases c12 : x3_1 < (l0_0.length : Int)
           ·rw [if_pos c12] at H
            have c12b0 : decide (x3_1 < (l0_0.length : Int)) = true := decide_eq_true c12
            clear c12
            by_cases c13 : x4_2 < ((rd_L14 l0_0 x3_1).length : Int)
            ·rw [if_pos c13] at H
             have c13b0 : decide (x4_2 < ((rd_L14 l0_0 x3_1).length : Int)) = true := decide_eq_true c13
             clear c13
             by_cases c14 : 0 ≤ x4_2
             ·rw [if_pos c14] at H
              have c14b0 : decide (0 ≤ x4_2) = true := decide_eq_true c14
              clear c14
              replace H := Option.bind_eq_some_iff.mp H
              obtain ⟨t313,A150,H⟩ := H
              replace H : (if t313 = true then (spec_MemoryOk.l1 k2 x3_1 (wrap64 (x4_2 + 1)) l0_0) else (some false)) = some r := H
              have A15 := aM_ A150
              clear A150
              by_cases c16 : t313 = true
              ·subst c16
               have H1 : (spec_MemoryOk.l1 k2 x3_1 (wrap64 (x4_2 + 1)) l0_0) = some r := by rw [if_pos rfl] at H;exact H
               clear H
               have H := H1
               clear H1
               have H' := aM_ H
               clear H
               have hcz17_0 : wr.cell? ⟨gb307,0,none⟩ = some (.slice (some ad308) l0_0.length c0_0) := (blk_cell BK307.out 0).trans rfl
               have hfz17_0 := blk_frozen BK307.out 0
               have p310 : 0 ≤ (x3_1 : Int) := of_decide_eq_true (by first | (with_reducible assumption) | assumption)
               have q310 : x3_1 < (l0_0.length : Int) := of_decide_eq_true (by first | (with_reducible assumption) | assumption)
               obtain ⟨ad310,A310_0,c310_0,e310,hx310_0,hl310_0,hi310_0⟩ := at_L14 HR0_0.out x3_1 p310 q310
               obtain rfl : ad308 = ad310 := (by injection e310)
               replace hx310_0 := cB_ HB.out hx310_0
               have HR310_0 := aM_ hi310_0
               have HC310_0 := aM_ hl310_0
               clear hi310_0 hl310_0
               replace p310 := eq_true p310
               replace q310 := eq_true q310
               try go_wp2
               have n0 := aM_ (blk_drew BK307.out)
               have n1 := aM_ (below_drew1 HB.out)
               clear BK307
               clear HB
               have BK307 := n0
               have HB := n1
               clear n0 n1
               have p311 : 0 ≤ (x3_1 : Int) := of_decide_eq_true (by first | (with_reducible assumption) | assumption)
               have q311 : x3_1 < (l0_0.length : Int) := of_decide_eq_true (by first | (with_reducible assumption) | assumption)
               obtain ⟨ad311,A311_0,c311_0,e311,hx311_0,hl311_0,hi311_0⟩ := at_L14 HR0_0.out x3_1 p311 q311
               have hw311_0 := hx311_0
               obtain rfl : ad308 = ad311 := (by injection e311)
               replace hx311_0 := cB_ HB.out hx311_0
               have HR311_0 := aM_ hi311_0
               have HC311_0 := aM_ hl311_0
               clear hi311_0 hl311_0
               replace p311 := eq_true p311
               replace q311 := eq_true q311
               have p312 : 0 ≤ (x4_2 : Int) := of_decide_eq_true (by first | (with_reducible assumption) | assumption)
               have q312 : x4_2 < ((rd_L14 l0_0 x3_1).length : Int) := of_decide_eq_true (by first | (with_reducible assumption) | assumption)
               obtain ⟨ad312,A312_1,c312_1,e312,hx312_0,hx312_1,hl312_1,hi312_1⟩ := at_T170 HR311_0.out x4_2 p312 q312
               have hw312_1 := hx312_1
               have hw312_0 := hx312_0
               cases e312
               replace hx312_0 := cB_ HB.out hx312_0
               replace hx312_1 := cB_ HB.out hx312_1
               have HR312_1 := aM_ hi312_1
               have HC312_1 := aM_ hl312_1
               clear hi312_1 hl312_1
               replace p312 := eq_true p312
               replace q312 := eq_true q312
               refine start_ (n := 12) (S := fun w' => w'.cell? ⟨gb307,0,none⟩ = some (.slice (some ad308) l0_0.length c0_0) ∧ w'.cell? (ad308.add (x3_1).toNat) = some (.slice (some ad312) (rd_L14 l0_0 x3_1).length c311_0) ∧ w'.cell? (ad312.add ((x4_2).toNat * 2)) = some (.int .i64 ((rd_T170 (rd_L14 l0_0 x3_1) x4_2).f0)) ∧ w'.cell? ⟨(ad312.add ((x4_2).toNat * 2)).block,(ad312.add ((x4_2).toNat * 2)).off + 1,none⟩ = some (.slice A312_1 ((rd_T170 (rd_L14 l0_0 x3_1) x4_2).f1).length c312_1)) (ds := []) (mk_ 12 0) (by kernel_rfl) rfl rfl ⟨(blk_cell BK307.out 0).trans rfl,(cB_ HB.out hw311_0 :),(cB_ HB.out hw312_0 :),(cB_ HB.out hw312_1 :)⟩ (fun hHeld => ?_);refine with_tabW spec_MemoryOk.tab11 spec_MemoryOk.bits11 (fun HT_ HW_ => ?_)
               generalize wr.drew = w18 at BK307 HB HR311_0 HR312_1 hx311_0 hx312_0 hx312_1 hHeld ⊢
               refine pU_ 1 (some 32) (mk_ 12 2) ?_
               refine pU_ 3 (some 34) (mk_ 12 10) ?_
               refine pU_ 6 (some 37) (mk_ 12 74) ?_
               refine tK4_ 0 (some 31) (mk_ 12 75) ?_
               refine tK4_ 2 (some 33) (mk_ 12 79) ?_
               refine pU_ 4 (some 35) (mk_ 12 95) ?_
               refine tK4_ 5 (some 36) (mk_ 12 127) ?_
               refine pU_ 7 (some 38) (mk_ 12 255) ?_
               refine pU_ 8 (some 39) (mk_ 12 511) ?_
               refine tK4_ 9 (some 40) (mk_ 12 1023) ?_
               refine oN_ 10 (some 41) (mk_ 12 2047) (fun K hK => ?_)
               refine gO_ Try.func133 #[.agg #[.slice (some ad308) l0_0.length c0_0],.slice A312_1 ((rd_T170 (rd_L14 l0_0 x3_1) x4_2).f1).length c312_1] ?_
               with_reducible refine (spec_ViewOk.calls k2 _ _ l0_0 _ _ ((rd_T170 (rd_L14 l0_0 x3_1) x4_2).f1) true _ ?side1 ?side2 ?side3 ?side4 A15.out).mono ?_
               (case side1 => exact cS_ (Kd.C_below HR0_0.out HB.out))
               (case side2 => exact HC0_0.out)
               (case side3 => exact cS_ (Kd.C_below HR312_1.out HB.out))
               (case side4 => exact HC312_1.out)
               rintro e w19 ⟨rfl,hb⟩
               refine ⟨_,rfl,?_⟩
               have n0 := aM_ (nB_ BK307.out hb)
               have n1 := aM_ (sT_ HB.out hb)
               clear BK307
               clear HB
               have BK307 := n0
               have HB := n1
               clear n0 n1
               (try clear hb)
               (try clear hb2)
               (try clear hk)
               (try clear hi)
               refine hK.out _ _ ⟨(blk_cell BK307.out 0).trans rfl,(cB_ HB.out hw311_0 :),(cB_ HB.out hw312_0 :),(cB_ HB.out hw312_1 :)⟩ (fun hHeld => ?_)
               clear hK K
               refine norm_ (a' := ?_) ?_ ?_
               rotate_left
               ·show Act.put _ (some 41) _ = _
                simp only [pt_,pn_,sI_,s0_,s1_,i64_w,i32_w]
                rfl
               refine pU_ 11 (some 42) (mk_ 12 4095) ?_
               refine done_ (done_of HT_.out (by kernel_rfl)) ?_
               try go_wp2
               go_roundg k2
               case measure => have := HK1.out;have := HK2.out;omega
               case rel => exact ⟨(wrap64 (x4_2 + 1)),(by first | rfl | (simp;done) | (simp [*];done)),H',⟨by have := HK1.out;have := HK2.out;omega⟩,⟨rW_ BK307.out⟩,⟨gW_ HB.out⟩⟩
              ·replace c16 := Bool.eq_false_iff.mpr c16
               subst c16
               have H1 : (some false) = some r := by rw [if_neg (show ¬ (false = true) by decide)] at H;exact H
               clear H
               have H := H1
               clear H1
               obtain rfl := Option.some.inj H
               have hcz20_0 : wr.cell? ⟨gb307,0,none⟩ = some (.slice (some ad308) l0_0.length c0_0) := (blk_cell BK307.out 0).trans rfl
               have hfz20_0 := blk_frozen BK307.out 0
               have p310 : 0 ≤ (x3_1 : Int) := of_decide_eq_true (by first | (with_reducible assumption) | assumption)
               have q310 : x3_1 < (l0_0.length : Int) := of_decide_eq_true (by first | (with_reducible assumption) | assumption)
               obtain ⟨ad310,A310_0,c310_0,e310,hx310_0,hl310_0,hi310_0⟩ := at_L14 HR0_0.out x3_1 p310 q310
               obtain rfl : ad308 = ad310 := (by injection e310)
               replace hx310_0 := cB_ HB.out hx310_0
               have HR310_0 := aM_ hi310_0
               have HC310_0 := aM_ hl310_0
               clear hi310_0 hl310_0
               replace p310 := eq_true p310
               replace q310 := eq_true q310
               try go_wp2
               have n0 := aM_ (blk_drew BK307.out)
               have n1 := aM_ (below_drew1 HB.out)
               clear BK307
               clear HB
               have BK307 := n0
               have HB := n1
               clear n0 n1
               have p311 : 0 ≤ (x3_1 : Int) := of_decide_eq_true (by first | (with_reducible assumption) | assumption)
               have q311 : x3_1 < (l0_0.length : Int) := of_decide_eq_true (by first | (with_reducible assumption) | assumption)
               obtain ⟨ad311,A311_0,c311_0,e311,hx311_0,hl311_0,hi311_0⟩ := at_L14 HR0_0.out x3_1 p311 q311
               have hw311_0 := hx311_0
               obtain rfl : ad308 = ad311 := (by injection e311)
               replace hx311_0 := cB_ HB.out hx311_0
               have HR311_0 := aM_ hi311_0
               have HC311_0 := aM_ hl311_0
               clear hi311_0 hl311_0
               replace p311 := eq_true p311
               replace q311 := eq_true q311
               have p312 : 0 ≤ (x4_2 : Int) := of_decide_eq_true (by first | (with_reducible assumption) | assumption)
               have q312 : x4_2 < ((rd_L14 l0_0 x3_1).length : Int) := of_decide_eq_true (by first | (with_reducible assumption) | assumption)
               obtain ⟨ad312,A312_1,c312_1,e312,hx312_0,hx312_1,hl312_1,hi312_1⟩ := at_T170 HR311_0.out x4_2 p312 q312
               have hw312_1 := hx312_1
               have hw312_0 := hx312_0
               cases e312
               replace hx312_0 := cB_ HB.out hx312_0
               replace hx312_1 := cB_ HB.out hx312_1
               have HR312_1 := aM_ hi312_1
               have HC312_1 := aM_ hl312_1
               clear hi312_1 hl312_1
               replace p312 := eq_true p312
               replace q312 := eq_true q312
               refine start_ (n := 12) (S := fun w' => w'.cell? ⟨gb307,0,none⟩ = some (.slice (some ad308) l0_0.length c0_0) ∧ w'.cell? (ad308.add (x3_1).toNat) = some (.slice (some ad312) (rd_L14 l0_0 x3_1).length c311_0) ∧ w'.cell? (ad312.add ((x4_2).toNat * 2)) = some (.int .i64 ((rd_T170 (rd_L14 l0_0 x3_1) x4_2).f0)) ∧ w'.cell? ⟨(ad312.add ((x4_2).toNat * 2)).block,(ad312.add ((x4_2).toNat * 2)).off + 1,none⟩ = some (.slice A312_1 ((rd_T170 (rd_L14 l0_0 x3_1) x4_2).f1).length c312_1)) (ds := []) (mk_ 12 0) (by kernel_rfl) rfl rfl ⟨(blk_cell BK307.out 0).trans rfl,(cB_ HB.out hw311_0 :),(cB_ HB.out hw312_0 :),(cB_ HB.out hw312_1 :)⟩ (fun hHeld => ?_);refine with_tabW spec_MemoryOk.tab11 spec_MemoryOk.bits11 (fun HT_ HW_ => ?_)
               generalize wr.drew = w21 at BK307 HB HR311_0 HR312_1 hx311_0 hx312_0 hx312_1 hHeld ⊢
               refine pU_ 1 (some 32) (mk_ 12 2) ?_
               refine pU_ 3 (some 34) (mk_ 12 10) ?_
               refine pU_ 6 (some 37) (mk_ 12 74) ?_
               refine tK4_ 0 (some 31) (mk_ 12 75) ?_
               refine tK4_ 2 (some 33) (mk_ 12 79) ?_
               refine pU_ 4 (some 35) (mk_ 12 95) ?_
               refine tK4_ 5 (some 36) (mk_ 12 127) ?_
               refine pU_ 7 (some 38) (mk_ 12 255) ?_
               refine pU_ 8 (some 39) (mk_ 12 511) ?_
               refine tK4_ 9 (some 40) (mk_ 12 1023) ?_
               refine oN_ 10 (some 41) (mk_ 12 2047) (fun K hK => ?_)
               refine gO_ Try.func133 #[.agg #[.slice (some ad308) l0_0.length c0_0],.slice A312_1 ((rd_T170 (rd_L14 l0_0 x3_1) x4_2).f1).length c312_1] ?_
               with_reducible refine (spec_ViewOk.calls k2 _ _ l0_0 _ _ ((rd_T170 (rd_L14 l0_0 x3_1) x4_2).f1) false _ ?side1 ?side2 ?side3 ?side4 A15.out).mono ?_
               (case side1 => exact cS_ (Kd.C_below HR0_0.out HB.out))
               (case side2 => exact HC0_0.out)
               (case side3 => exact cS_ (Kd.C_below HR312_1.out HB.out))
               (case side4 => exact HC312_1.out)
               rintro e w22 ⟨rfl,hb⟩
               refine ⟨_,rfl,?_⟩
               have n0 := aM_ (nB_ BK307.out hb)
               have n1 := aM_ (sT_ HB.out hb)
               clear BK307
               clear HB
               have BK307 := n0
               have HB := n1
               clear n0 n1
               (try clear hb)
               (try clear hb2)
               (try clear hk)
               (try clear hi)
               refine hK.out _ _ ⟨(blk_cell BK307.out 0).trans rfl,(cB_ HB.out hw311_0 :),(cB_ HB.out hw312_0 :),(cB_ HB.out hw312_1 :)⟩ (fun hHeld => ?_)
               clear hK K
               refine norm_ (a' := ?_) ?_ ?_
               rotate_left
               ·show Act.put _ (some 41) _ = _
                simp only [pt_,pn_,sI_,s0_,s1_,i64_w,i32_w]
                rfl
               refine pU_ 11 (some 42) (mk_ 12 4095) ?_
               refine done_ (done_of HT_.out (by kernel_rfl)) ?_
               try go_wp2
               go_ret
               exact fI_ HB.out
             ·rw [if_neg c14] at H
              exact absurd H (by simp)
            ·rw [if_neg c13] at H
             have c13b0 : decide (x4_2 < ((rd_L14 l0_0 x3_1).length : Int)) = false := decide_eq_false c13
             clear c13
             have H' := aM_ H
             clear H
             have hcz23_0 : wr.cell? ⟨gb307,0,none⟩ = some (.slice (some ad308) l0_0.length c0_0) := (blk_cell BK307.out 0).trans rfl
             have hfz23_0 := blk_frozen BK307.out 0
             have p310 : 0 ≤ (x3_1 : Int) := of_decide_eq_true (by first | (with_reducible assumption) | assumption)
             have q310 : x3_1 < (l0_0.length : Int) := of_decide_eq_true (by first | (with_reducible assumption) | assumption)
             obtain ⟨ad310,A310_0,c310_0,e310,hx310_0,hl310_0,hi310_0⟩ := at_L14 HR0_0.out x3_1 p310 q310
             obtain rfl : ad308 = ad310 := (by injection e310)
             replace hx310_0 := cB_ HB.out hx310_0
             have HR310_0 := aM_ hi310_0
             have HC310_0 := aM_ hl310_0
             clear hi310_0 hl310_0
             replace p310 := eq_true p310
             replace q310 := eq_true q310
             go_wp2
             go_roundg k2
             case measure => have := HK1.out;have := HK2.out;omega
             case rel => exact ⟨(wrap64 (x3_1 + 1)),(by first | rfl | (simp;done) | (simp [*];done)),H',⟨by have := HK1.out;have := HK2.out;omega⟩,⟨rW_ BK307.out⟩,⟨gW_ HB.out⟩⟩
           ·rw [if_neg c12] at H
            exact absurd H (by simp)
          ·rw [if_neg c11] at H
           exact absurd H (by simp)
       ·replace c9 := Bool.eq_false_iff.mpr c9
        subst c9
        have H1 : (some false) = some r := by rw [if_neg (show ¬ (false = true) by decide)] at H;exact H
        clear H
        have H := H1
        clear H1
        obtain rfl := Option.some.inj H
        have hcz24_0 : wr.cell? ⟨gb307,0,none⟩ = some (.slice A0_0 l0_0.length c0_0) := (blk_cell BK307.out 0).trans rfl
        have hfz24_0 := blk_frozen BK307.out 0
        have p308 : 0 ≤ (x3_1 : Int) := of_decide_eq_true (by first | (with_reducible assumption) | assumption)
        have q308 : x3_1 < (l0_0.length : Int) := of_decide_eq_true (by first | (with_reducible assumption) | assumption)
        obtain ⟨ad308,A308_0,c308_0,e308,hx308_0,hl308_0,hi308_0⟩ := at_L14 HR0_0.out x3_1 p308 q308
        cases e308
        replace hx308_0 := cB_ HB.out hx308_0
        have HR308_0 := aM_ hi308_0
        have HC308_0 := aM_ hl308_0
        clear hi308_0 hl308_0
        replace p308 := eq_true p308
        replace q308 := eq_true q308
        go_wp2_with (first | ((with_reducible refine gate_callee (f := 111) rfl ?_);refine gL_ (some 19) Try.func111 #[.int .i64 ((rd_L14 l0_0 x3_1).length : Int),.int .i64 1,.int .i64 4000] ?_;(with_reducible refine (spec_l1In.calls ((rd_L14 l0_0 x3_1).length : Int) 1 4000 false _ A8.out).mono ?_);rintro e w' ⟨rfl,⟨nd,rfl⟩⟩;refine ⟨_,rfl,?_⟩))
        go_ret
        exact fI_ HB.out
      ·rw [if_neg c7] at H
       exact absurd H (by simp)
     ·rw [if_neg c6] at H
      exact absurd H (by simp)
    ·rw [if_neg c5] at H
     have c5b0 : decide (x3_1 < 24) = false := decide_eq_false c5
     clear c5
     obtain rfl := Option.some.inj H
     go_wp2
     go_ret
     exact fI_ HB.out
 ·rw [if_neg c2] at H
  have c2b0 : ((l0_0.length : Int) == 24) = false := beq_eq_false_iff_ne.mpr c2
  have c2b1 : ((l0_0.length : Int) != 24) = true := bne_iff_ne.mpr c2
  obtain rfl := Option.some.inj H
  go_enter Try.func116,Try.ntmps116
  go_wp2_with (first | ((with_reducible refine gate_dst (N := 1) rfl ?_);refine bX_ 1 (cs := #[.slice A0_0 l0_0.length c0_0]) (t := 57) ?_;intro gb307 hg w25 hbox hb;have n0 := aM_ (sT_ HB.out hb);have n1 := aM_ (hbox);have n2 := aM_ (sZ_ hg HB.out);have n3 := aM_ (sZ_ hg HB.out);clear HB;have HB := n0;have BK307 := n1;have GW307 := n2;have GE307 := n3;clear n0 n1 n2 n3;clear hb hbox hg;have hcz26_0 : w25.cell? ⟨gb307,0,none⟩ = some (.slice A0_0 l0_0.length c0_0) := (blk_cell BK307.out 0).trans rfl;have hfz26_0 := blk_frozen BK307.out 0))
  go_ret
  exact fI_ HB.out
def spec_l9Last.f (l0_0 : List (List (S170))) (a1 : Int) : Option (Int) := if 0 ≤ a1 then (if a1 < (l0_0.length : Int) then (if 0 ≤ (wrap64 (((rd_L14 l0_0 a1).length : Int) - 1)) then (if (wrap64 (((rd_L14 l0_0 a1).length : Int) - 1)) < ((rd_L14 l0_0 a1).length : Int) then (some ((rd_T170 (rd_L14 l0_0 a1) (wrap64 (((rd_L14 l0_0 a1).length : Int) - 1))).f0)) else (none)) else (none)) else (none)) else (none)
set_option maxHeartbeats 8000000 in
set_option maxRecDepth 100000 in
theorem spec_l9Last.calls (A0_0 : Option Addr) (c0_0 : Nat) (l0_0 : List (List (S170))) (a1 : Int) (r : Int) (w : World) (hr0_0 : Kd.C (Kd.slice 170 k170) w A0_0 l0_0.length l0_0) (hc0_0 : l0_0.length ≤ c0_0) (h : spec_l9Last.f l0_0 a1 = some r) :
  Calls Try.prog 117 #[.agg #[.slice A0_0 l0_0.length c0_0],.int .i64 a1] w fun e w' => e = .returned (.int .i64 r) ∧ Below w.heap.size w w' := by
 have hu57 := Try.underlying57
 have HR0_0 := aM_ hr0_0
 have HC0_0 := aM_ hc0_0
 clear hr0_0 hc0_0
 have HB := aM_ (Below.refl w.heap.size w)
 have H : (if 0 ≤ a1 then (if a1 < (l0_0.length : Int) then (if 0 ≤ (wrap64 (((rd_L14 l0_0 a1).length : Int) - 1)) then (if (wrap64 (((rd_L14 l0_0 a1).length : Int) - 1)) < ((rd_L14 l0_0 a1).length : Int) then (some ((rd_T170 (rd_L14 l0_0 a1) (wrap64 (((rd_L14 l0_0 a1).length : Int) - 1))).f0)) else (none)) else (none)) else (none)) else (none)) = some r := h
 clear h
 by_cases c3 : 0 ≤ a1
 ·rw [if_pos c3] at H
  have c3b0 : decide (0 ≤ a1) = true := decide_eq_true c3
  clear c3
  by_cases c4 : a1 < (l0_0.length : Int)
  ·rw [if_pos c4] at H
   have c4b0 : decide (a1 < (l0_0.length : Int)) = true := decide_eq_true c4
   clear c4
   obtain ⟨ji5,hji5⟩ : ∃ j_ : Int,(wrap64 (((rd_L14 l0_0 a1).length : Int) - 1)) = j_ := ⟨_,rfl⟩
   replace H : (if 0 ≤ (ji5) then (if (ji5) < ((rd_L14 l0_0 a1).length : Int) then (some ((rd_T170 (rd_L14 l0_0 a1) (ji5)).f0)) else (none)) else (none)) = some r := by first | (rw [hji5] at H;exact H) | (simp only [hji5] at H ⊢;exact H)
   have hji5w : (IntKind.i64.wrap (((rd_L14 l0_0 a1).length : Int) - 1)) = ji5 := (i64_w _).trans hji5
   by_cases c6 : 0 ≤ (ji5)
   ·rw [if_pos c6] at H
    have c6b0 : decide (0 ≤ (ji5)) = true := decide_eq_true c6
    clear c6
    by_cases c7 : (ji5) < ((rd_L14 l0_0 a1).length : Int)
    ·rw [if_pos c7] at H
     have c7b0 : decide ((ji5) < ((rd_L14 l0_0 a1).length : Int)) = true := decide_eq_true c7
     clear c7
     obtain rfl := Option.some.inj H
     go_enter Try.func117,Try.ntmps117
     go_wp2_with (first | ((with_reducible refine gate_dst (N := 2) rfl ?_);refine bX_ 2 (cs := #[.slice A0_0 l0_0.length c0_0]) (t := 57) ?_;intro gb314 hg w8 hbox hb;have n0 := aM_ (sT_ HB.out hb);have n1 := aM_ (hbox);have n2 := aM_ (sZ_ hg HB.out);have n3 := aM_ (sZ_ hg HB.out);clear HB;have HB := n0;have BK314 := n1;have GW314 := n2;have GE314 := n3;clear n0 n1 n2 n3;clear hb hbox hg;have hcz9_0 : w8.cell? ⟨gb314,0,none⟩ = some (.slice A0_0 l0_0.length c0_0) := (blk_cell BK314.out 0).trans rfl;have hfz9_0 := blk_frozen BK314.out 0;have p315 : 0 ≤ (a1 : Int) := of_decide_eq_true (by first | (with_reducible assumption) | assumption);have q315 : a1 < (l0_0.length : Int) := of_decide_eq_true (by first | (with_reducible assumption) | assumption);obtain ⟨ad315,A315_0,c315_0,e315,hx315_0,hl315_0,hi315_0⟩ := at_L14 HR0_0.out a1 p315 q315;cases e315;replace hx315_0 := cB_ HB.out hx315_0;have HR315_0 := aM_ hi315_0;have HC315_0 := aM_ hl315_0;clear hi315_0 hl315_0;replace p315 := eq_true p315;replace q315 := eq_true q315;have p316 : 0 ≤ ((ji5) : Int) := of_decide_eq_true (by first | (with_reducible assumption) | assumption);have q316 : (ji5) < ((rd_L14 l0_0 a1).length : Int) := of_decide_eq_true (by first | (with_reducible assumption) | assumption);obtain ⟨ad316,A316_1,c316_1,e316,hx316_0,hx316_1,hl316_1,hi316_1⟩ := at_T170 HR315_0.out (ji5) p316 q316;cases e316;replace hx316_0 := cB_ HB.out hx316_0;replace hx316_1 := cB_ HB.out hx316_1;have HR316_1 := aM_ hi316_1;have HC316_1 := aM_ hl316_1;clear hi316_1 hl316_1;replace p316 := eq_true p316;replace q316 := eq_true q316))
     go_ret
     exact ⟨by first | rfl | (simp [errW_none,errW_some] <;> rfl) | (simp only [← hji5];first | rfl | (simp [errW_none,errW_some] <;> rfl)) | (simp [*,errW_none,errW_some] <;> rfl),gB_ HB.out⟩
    ·rw [if_neg c7] at H
     exact absurd H (by simp)
   ·rw [if_neg c6] at H
    exact absurd H (by simp)
  ·rw [if_neg c4] at H
   exact absurd H (by simp)
 ·rw [if_neg c3] at H
  exact absurd H (by simp)
end Go.Proofs.Ytobachfngmpeiaa.PFnExactChanSame
