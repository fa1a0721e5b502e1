/- A part of the proof that the law FnStore holds for every input: the words, functions and walks that its row needs, without a condition of their own. -/
import Derived.Test.YthbcnakmnbilhaaZFnStorea2
import Derived.Test.YthbcnakmnbilhaaZFnStorea6
import Derived.Test.YthbcnakmnbilhaaZFnStores
namespace Go.Proofs.Ythbcnakmnbilhaa.PFnStore
open Go.RowKit Go.Proofs.YthbcnakmnbilhaaW.PrintWords Go.Proofs.YthbcnakmnbilhaaW.PrintLast Go.Proofs.YthbcnakmnbilhaaW.PrintMore
attribute [local go_sem] max2_int min2_int max_two min_two max_three min_three max_four min_four   -- for this text's walks alone
set_option linter.unusedVariables false
set_option linter.unusedSimpArgs false
mutual
def spec_MemoryOk.l0 : Nat → Int → List (List (S43)) → Option (Bool)
  | 0,_,_ => none
  | k + 1,x3,x209000 => if x3 < 24 then (if 0 ≤ x3 then (if x3 < (x209000.length : Int) then ((spec_l1In.f ((rd_L4 x209000 x3).length : Int) 1 4000).bind fun t210 => (if t210 = true then (spec_MemoryOk.l1 k x3 0 x209000) else (some false))) else (none)) else (none)) else (some true)
def spec_MemoryOk.l1 : Nat → Int → Int → List (List (S43)) → Option (Bool)
  | 0,_,_,_ => none
  | k + 1,x3,x4,x209000 => if 0 ≤ x3 then (if x3 < (x209000.length : Int) then (if x4 < ((rd_L4 x209000 x3).length : Int) then (if 0 ≤ x4 then ((spec_ViewOk.f k x209000 ((rd_T43 (rd_L4 x209000 x3) x4).f1)).bind fun t214 => (if t214 = true then (spec_MemoryOk.l1 k x3 (wrap64 (x4 + 1)) x209000) else (some false))) else (none)) else (spec_MemoryOk.l0 k (wrap64 (x3 + 1)) x209000)) else (none)) else (none)
end
def spec_MemoryOk.f (k : Nat) (l0_0 : List (List (S43))) : Option (Bool) := if (l0_0.length : Int) = 24 then (spec_MemoryOk.l0 k 0 l0_0) else (some false)
def spec_MemoryOk.T11 : Bool × List (List Nat × List Nat) := (true,[([],[]),([],[]),([1],[1]),([],[]),([2,3],[2,3]),([4],[4]),([],[]),([5,6],[5,6]),([7],[7]),([8],[8]),([0,9],[0,9]),([10],[10])])
def spec_MemoryOk.B11 : List Nat := [0,0,2,0,14,30,0,126,254,510,1023,2047]
theorem spec_MemoryOk.tab11 : rtab .any (opsOf Try.f27 11) = spec_MemoryOk.T11 := by kernel_rfl
theorem spec_MemoryOk.bits11 : waitsOk spec_MemoryOk.T11.2 spec_MemoryOk.B11 = true := by kernel_rfl
set_option maxHeartbeats 8000000 in
set_option maxRecDepth 100000 in
theorem spec_MemoryOk.calls (k : Nat) (A0_0 : Option Addr) (c0_0 : Nat) (l0_0 : List (List (S43))) (r : Bool) (w : World) (hr0_0 : Kd.C (Kd.slice 43 k43) w A0_0 l0_0.length l0_0) (hc0_0 : l0_0.length ≤ c0_0) (h : spec_MemoryOk.f k l0_0 = some r) :
  Calls Try.prog 27 #[.agg #[.slice A0_0 l0_0.length c0_0]] w fun e w' => e = .returned (.bool r) ∧ Below w.heap.size w w' := by
 have hu24 := Try.underlying24
 have HR0_0 := aM_ hr0_0
 have HC0_0 := aM_ hc0_0
 clear hr0_0 hc0_0
 have HB := aM_ (Below.refl w.heap.size w)
 have H : (if (l0_0.length : Int) = 24 then (spec_MemoryOk.l0 k 0 l0_0) else (some false)) = some r := h
 clear h
 by_cases c2 : (l0_0.length : Int) = 24
 ·rw [if_pos c2] at H
  have c2b0 : ((l0_0.length : Int) == 24) = true := beq_iff_eq.mpr c2
  have c2b1 : ((l0_0.length : Int) != 24) = false := bne_eq_false_iff_eq.mpr c2
  clear c2
  have H' := aM_ H
  clear H
  go_enter Try.func27,Try.ntmps27
  go_wp2_with (first | ((with_reducible refine gate_dst (N := 1) rfl ?_);refine bX_ 1 (cs := #[.slice A0_0 l0_0.length c0_0]) (t := 24) ?_;intro gb208 hg w3 hbox hb;have n0 := aM_ (sT_ HB.out hb);have n1 := aM_ (hbox);have n2 := aM_ (sZ_ hg HB.out);have n3 := aM_ (sZ_ hg HB.out);clear HB;have HB := n0;have BK208 := n1;have GW208 := n2;have GE208 := n3;clear n0 n1 n2 n3;clear hb hbox hg;have hcz4_0 : w3.cell? ⟨gb208,0,none⟩ = some (.slice A0_0 l0_0.length c0_0) := (blk_cell BK208.out 0).trans rfl;have hfz4_0 := blk_frozen BK208.out 0))
  go_loopg [3] k (fun kq v3 w' => ∃ (x3_1 : Int),v3 = .int .i64 x3_1 ∧ Aside0 (spec_MemoryOk.l0 kq x3_1 l0_0 = some r) ∧ Aside0 (kq ≤ k) ∧ Aside0 (w'.heap[gb208]? = some (.cells #[(.slice A0_0 l0_0.length c0_0)] 24 (0,0))) ∧ Aside0 (Below w.heap.size w w'))
  case atStart => exact ⟨(0),(by first | rfl | (simp;done) | (simp [*];done)),H',⟨Nat.le_refl _⟩,⟨rW_ BK208.out⟩,⟨gW_ HB.out⟩⟩
  case round =>
   clear H'
   try clear c2
   try clear c2b0
   try clear c2b1
   try clear p2
   try clear hcz4_0 hfz4_0
   obtain ⟨x3_1,rfl,HA,HK1,BK208,HB⟩ := hrel
   cases gk with
   | zero => exact absurd HA.out (by simp [spec_MemoryOk.l0])
   | succ k1 =>
    have H := HA.out
    clear HA
    simp only [spec_MemoryOk.l0] at H
    by_cases c5 : x3_1 < 24
    ·rw [if_pos c5] at H
     have c5b0 : decide (x3_1 < 24) = true := decide_eq_true c5
     clear c5
     by_cases c6 : 0 ≤ x3_1
     ·rw [if_pos c6] at H
      have c6b0 : decide (0 ≤ x3_1) = true := decide_eq_true c6
      clear c6
      by_cases c7 : x3_1 < (l0_0.length : Int)
      ·rw [if_pos c7] at H
       have c7b0 : decide (x3_1 < (l0_0.length : Int)) = true := decide_eq_true c7
       clear c7
       replace H := Option.bind_eq_some_iff.mp H
       obtain ⟨t210,A80,H⟩ := H
       replace H : (if t210 = true then (spec_MemoryOk.l1 k1 x3_1 0 l0_0) else (some false)) = some r := H
       have A8 := aM_ A80
       clear A80
       by_cases c9 : t210 = true
       ·subst c9
        have H1 : (spec_MemoryOk.l1 k1 x3_1 0 l0_0) = some r := by rw [if_pos rfl] at H;exact H
        clear H
        have H := H1
        clear H1
        have H' := aM_ H
        clear H
        have hcz10_0 : wr.cell? ⟨gb208,0,none⟩ = some (.slice A0_0 l0_0.length c0_0) := (blk_cell BK208.out 0).trans rfl
        have hfz10_0 := blk_frozen BK208.out 0
        have p209 : 0 ≤ (x3_1 : Int) := of_decide_eq_true (by first | (with_reducible assumption) | assumption)
        have q209 : x3_1 < (l0_0.length : Int) := of_decide_eq_true (by first | (with_reducible assumption) | assumption)
        obtain ⟨ad209,A209_0,c209_0,e209,hx209_0,hl209_0,hi209_0⟩ := at_L4 HR0_0.out x3_1 p209 q209
        cases e209
        replace hx209_0 := cB_ HB.out hx209_0
        have HR209_0 := aM_ hi209_0
        have HC209_0 := aM_ hl209_0
        clear hi209_0 hl209_0
        replace p209 := eq_true p209
        replace q209 := eq_true q209
        go_wp2_with (first | ((with_reducible refine gate_callee (f := 69) rfl ?_);refine gL_ (some 19) Try.func69 #[.int .i64 ((rd_L4 l0_0 x3_1).length : Int),.int .i64 1,.int .i64 4000] ?_;(with_reducible refine (spec_l1In.calls ((rd_L4 l0_0 x3_1).length : Int) 1 4000 true _ A8.out).mono ?_);rintro e w' ⟨rfl,⟨nd,rfl⟩⟩;refine ⟨_,rfl,?_⟩))
        go_loopg [4] k1 (fun kq v4 w' => ∃ (x4_2 : Int),v4 = .int .i64 x4_2 ∧ Aside0 (spec_MemoryOk.l1 kq x3_1 x4_2 l0_0 = some r) ∧ Aside0 (kq ≤ k1) ∧ Aside0 (w'.heap[gb208]? = some (.cells #[(.slice (some ad209) l0_0.length c0_0)] 24 (0,0))) ∧ Aside0 (Below w.heap.size w w'))
        case atStart => exact ⟨(0),(by first | rfl | (simp;done) | (simp [*];done)),H',⟨Nat.le_refl _⟩,⟨rW_ BK208.out⟩,⟨gW_ HB.out⟩⟩
        case round =>
         clear H'
         try clear c2
         try clear c2b0
         try clear c2b1
         try clear p2
         try clear q2
         try clear hx2
         try clear c5
         try clear c5b0
         try clear c6
         try clear c6b0
         try clear c7
         try clear c7b0
         try clear c9
         try clear hcz10_0 hfz10_0
         try clear hcz4_0 hfz4_0
         try clear hx209_0
         try clear p2
         try clear p209
         try clear q209
         obtain ⟨x4_2,rfl,HA,HK2,BK208,HB⟩ := hrel
         cases gk with
         | zero => exact absurd HA.out (by simp [spec_MemoryOk.l1])
         | succ k2 =>
          have H := HA.out
          clear HA
          simp only [spec_MemoryOk.l1] at H
          by_cases c11 : 0 ≤ x3_1
          ·rw [if_pos c11] at H
           have c11b0 : decide (0 ≤ x3_1) = true := decide_eq_true c11
           clear c11
           by_cases c12 : x3_1 < (l0_0.length : Int)
           ·rw [if_pos c12] at H
            have c12b0 : decide (x3_1 < (l0_0.length : Int)) = true := decide_eq_true c12
            clear c12
            by_cases c13 : x4_2 < ((rd_L4 l0_0 x3_1).length : Int)
            ·rw [if_pos c13] at H
             have c13b0 : decide (x4_2 < ((rd_L4 l0_0 x3_1).length : Int)) = true := decide_eq_true c13
             clear c13
             by_cases c14 : 0 ≤ x4_2
             ·rw [if_pos c14] at H
              have c14b0 : decide (0 ≤ x4_2) = true := decide_eq_true c14
              clear c14
              replace H := Option.bind_eq_some_iff.mp H
              obtain ⟨t214,A150,H⟩ := H
              replace H : (if t214 = true then (spec_MemoryOk.l1 k2 x3_1 (wrap64 (x4_2 + 1)) l0_0) else (some false)) = some r := H
              have A15 := aM_ A150
              clear A150
              by_cases c16 : t214 = true
              ·subst c16
               have H1 : (spec_MemoryOk.l1 k2 x3_1 (wrap64 (x4_2 + 1)) l0_0) = some r := by rw [if_pos rfl] at H;exact H
               clear H
               have H := H1
               clear H1
               have H' := aM_ H
               clear H
               have hcz17_0 : wr.cell? ⟨gb208,0,none⟩ = some (.slice (some ad209) l0_0.length c0_0) := (blk_cell BK208.out 0).trans rfl
               have hfz17_0 := blk_frozen BK208.out 0
               have p211 : 0 ≤ (x3_1 : Int) := of_decide_eq_true (by first | (with_reducible assumption) | assumption)
               have q211 : x3_1 < (l0_0.length : Int) := of_decide_eq_true (by first | (with_reducible assumption) | assumption)
               obtain ⟨ad211,A211_0,c211_0,e211,hx211_0,hl211_0,hi211_0⟩ := at_L4 HR0_0.out x3_1 p211 q211
               obtain rfl : ad209 = ad211 := (by injection e211)
               replace hx211_0 := cB_ HB.out hx211_0
               have HR211_0 := aM_ hi211_0
               have HC211_0 := aM_ hl211_0
               clear hi211_0 hl211_0
               replace p211 := eq_true p211
               replace q211 := eq_true q211
               try go_wp2
               have n0 := aM_ (blk_drew BK208.out)
               have n1 := aM_ (below_drew1 HB.out)
               clear BK208
               clear HB
               have BK208 := n0
               have HB := n1
               clear n0 n1
               have p212 : 0 ≤ (x3_1 : Int) := of_decide_eq_true (by first | (with_reducible assumption) | assumption)
               have q212 : x3_1 < (l0_0.length : Int) := of_decide_eq_true (by first | (with_reducible assumption) | assumption)
               obtain ⟨ad212,A212_0,c212_0,e212,hx212_0,hl212_0,hi212_0⟩ := at_L4 HR0_0.out x3_1 p212 q212
               have hw212_0 := hx212_0
               obtain rfl : ad209 = ad212 := (by injection e212)
               replace hx212_0 := cB_ HB.out hx212_0
               have HR212_0 := aM_ hi212_0
               have HC212_0 := aM_ hl212_0
               clear hi212_0 hl212_0
               replace p212 := eq_true p212
               replace q212 := eq_true q212
               have p213 : 0 ≤ (x4_2 : Int) := of_decide_eq_true (by first | (with_reducible assumption) | assumption)
               have q213 : x4_2 < ((rd_L4 l0_0 x3_1).length : Int) := of_decide_eq_true (by first | (with_reducible assumption) | assumption)
               obtain ⟨ad213,A213_1,c213_1,e213,hx213_0,hx213_1,hl213_1,hi213_1⟩ := at_T43 HR212_0.out x4_2 p213 q213
               have hw213_1 := hx213_1
               have hw213_0 := hx213_0
               cases e213
               replace hx213_0 := cB_ HB.out hx213_0
               replace hx213_1 := cB_ HB.out hx213_1
               have HR213_1 := aM_ hi213_1
               have HC213_1 := aM_ hl213_1
               clear hi213_1 hl213_1
               replace p213 := eq_true p213
               replace q213 := eq_true q213
               refine start_ (n := 12) (S := fun w' => w'.cell? ⟨gb208,0,none⟩ = some (.slice (some ad209) l0_0.length c0_0) ∧ w'.cell? (ad209.add (x3_1).toNat) = some (.slice (some ad213) (rd_L4 l0_0 x3_1).length c212_0) ∧ w'.cell? (ad213.add ((x4_2).toNat * 2)) = some (.int .i64 ((rd_T43 (rd_L4 l0_0 x3_1) x4_2).f0)) ∧ w'.cell? ⟨(ad213.add ((x4_2).toNat * 2)).block,(ad213.add ((x4_2).toNat * 2)).off + 1,none⟩ = some (.slice A213_1 ((rd_T43 (rd_L4 l0_0 x3_1) x4_2).f1).length c213_1)) (ds := []) (mk_ 12 0) (by kernel_rfl) rfl rfl ⟨(blk_cell BK208.out 0).trans rfl,(cB_ HB.out hw212_0 :),(cB_ HB.out hw213_0 :),(cB_ HB.out hw213_1 :)⟩ (fun hHeld => ?_);refine with_tabW spec_MemoryOk.tab11 spec_MemoryOk.bits11 (fun HT_ HW_ => ?_)
               generalize wr.drew = w18 at BK208 HB HR212_0 HR213_1 hx212_0 hx213_0 hx213_1 hHeld ⊢
               refine pU_ 1 (some 32) (mk_ 12 2) ?_
               refine pU_ 3 (some 34) (mk_ 12 10) ?_
               refine pU_ 6 (some 37) (mk_ 12 74) ?_
               refine tK4_ 0 (some 31) (mk_ 12 75) ?_
               refine tK4_ 2 (some 33) (mk_ 12 79) ?_
               refine pU_ 4 (some 35) (mk_ 12 95) ?_
               refine tK4_ 5 (some 36) (mk_ 12 127) ?_
               refine pU_ 7 (some 38) (mk_ 12 255) ?_
               refine pU_ 8 (some 39) (mk_ 12 511) ?_
               refine tK4_ 9 (some 40) (mk_ 12 1023) ?_
               refine oN_ 10 (some 41) (mk_ 12 2047) (fun K hK => ?_)
               refine gO_ Try.func29 #[.agg #[.slice (some ad209) l0_0.length c0_0],.slice A213_1 ((rd_T43 (rd_L4 l0_0 x3_1) x4_2).f1).length c213_1] ?_
               with_reducible refine (spec_ViewOk.calls k2 _ _ l0_0 _ _ ((rd_T43 (rd_L4 l0_0 x3_1) x4_2).f1) true _ ?side1 ?side2 ?side3 ?side4 A15.out).mono ?_
               (case side1 => exact cS_ (Kd.C_below HR0_0.out HB.out))
               (case side2 => exact HC0_0.out)
               (case side3 => exact cS_ (Kd.C_below HR213_1.out HB.out))
               (case side4 => exact HC213_1.out)
               rintro e w19 ⟨rfl,hb⟩
               refine ⟨_,rfl,?_⟩
               have n0 := aM_ (nB_ BK208.out hb)
               have n1 := aM_ (sT_ HB.out hb)
               clear BK208
               clear HB
               have BK208 := n0
               have HB := n1
               clear n0 n1
               (try clear hb)
               (try clear hb2)
               (try clear hk)
               (try clear hi)
               refine hK.out _ _ ⟨(blk_cell BK208.out 0).trans rfl,(cB_ HB.out hw212_0 :),(cB_ HB.out hw213_0 :),(cB_ HB.out hw213_1 :)⟩ (fun hHeld => ?_)
               clear hK K
               refine norm_ (a' := ?_) ?_ ?_
               rotate_left
               ·show Act.put _ (some 41) _ = _
                simp only [pt_,pn_,sI_,s0_,s1_,i64_w,i32_w]
                rfl
               refine pU_ 11 (some 42) (mk_ 12 4095) ?_
               refine done_ (done_of HT_.out (by kernel_rfl)) ?_
               try go_wp2
               go_roundg k2
               case measure => have := HK1.out;have := HK2.out;omega
               case rel => exact ⟨(wrap64 (x4_2 + 1)),(by first | rfl | (simp;done) | (simp [*];done)),H',⟨by have := HK1.out;have := HK2.out;omega⟩,⟨rW_ BK208.out⟩,⟨gW_ HB.out⟩⟩
              ·replace c16 := Bool.eq_false_iff.mpr c16
               subst c16
               have H1 : (some false) = some r := by rw [if_neg (show ¬ (false = true) by decide)] at H;exact H
               clear H
               have H := H1
               clear H1
               obtain rfl := Option.some.inj H
               have hcz20_0 : wr.cell? ⟨gb208,0,none⟩ = some (.slice (some ad209) l0_0.length c0_0) := (blk_cell BK208.out 0).trans rfl
               have hfz20_0 := blk_frozen BK208.out 0
               have p211 : 0 ≤ (x3_1 : Int) := of_decide_eq_true (by first | (with_reducible assumption) | assumption)
               have q211 : x3_1 < (l0_0.length : Int) := of_decide_eq_true (by first | (with_reducible assumption) | assumption)
               obtain ⟨ad211,A211_0,c211_0,e211,hx211_0,hl211_0,hi211_0⟩ := at_L4 HR0_0.out x3_1 p211 q211
               obtain rfl : ad209 = ad211 := (by injection e211)
               replace hx211_0 := cB_ HB.out hx211_0
               have HR211_0 := aM_ hi211_0
               have HC211_0 := aM_ hl211_0
               clear hi211_0 hl211_0
               replace p211 := eq_true p211
               replace q211 := eq_true q211
               try go_wp2
               have n0 := aM_ (blk_drew BK208.out)
               have n1 := aM_ (below_drew1 HB.out)
               clear BK208
               clear HB
               have BK208 := n0
               have HB := n1
               clear n0 n1
               have p212 : 0 ≤ (x3_1 : Int) := of_decide_eq_true (by first | (with_reducible assumption) | assumption)
               have q212 : x3_1 < (l0_0.length : Int) := of_decide_eq_true (by first | (with_reducible assumption) | assumption)
               obtain ⟨ad212,A212_0,c212_0,e212,hx212_0,hl212_0,hi212_0⟩ := at_L4 HR0_0.out x3_1 p212 q212
               have hw212_0 := hx212_0
               obtain rfl : ad209 = ad212 := (by injection e212)
               replace hx212_0 := cB_ HB.out hx212_0
               have HR212_0 := aM_ hi212_0
               have HC212_0 := aM_ hl212_0
               clear hi212_0 hl212_0
               replace p212 := eq_true p212
               replace q212 := eq_true q212
               have p213 : 0 ≤ (x4_2 : Int) := of_decide_eq_true (by first | (with_reducible assumption) | assumption)
               have q213 : x4_2 < ((rd_L4 l0_0 x3_1).length : Int) := of_decide_eq_true (by first | (with_reducible assumption) | assumption)
               obtain ⟨ad213,A213_1,c213_1,e213,hx213_0,hx213_1,hl213_1,hi213_1⟩ := at_T43 HR212_0.out x4_2 p213 q213
               have hw213_1 := hx213_1
               have hw213_0 := hx213_0
               cases e213
               replace hx213_0 := cB_ HB.out hx213_0
               replace hx213_1 := cB_ HB.out hx213_1
               have HR213_1 := aM_ hi213_1
               have HC213_1 := aM_ hl213_1
               clear hi213_1 hl213_1
               replace p213 := eq_true p213
               replace q213 := eq_true q213
               refine start_ (n := 12) (S := fun w' => w'.cell? ⟨gb208,0,none⟩ = some (.slice (some ad209) l0_0.length c0_0) ∧ w'.cell? (ad209.add (x3_1).toNat) = some (.slice (some ad213) (rd_L4 l0_0 x3_1).length c212_0) ∧ w'.cell? (ad213.add ((x4_2).toNat * 2)) = some (.int .i64 ((rd_T43 (rd_L4 l0_0 x3_1) x4_2).f0)) ∧ w'.cell? ⟨(ad213.add ((x4_2).toNat * 2)).block,(ad213.add ((x4_2).toNat * 2)).off + 1,none⟩ = some (.slice A213_1 ((rd_T43 (rd_L4 l0_0 x3_1) x4_2).f1).length c213_1)) (ds := []) (mk_ 12 0) (by kernel_rfl) rfl rfl ⟨(blk_cell BK208.out 0).trans rfl,(cB_ HB.out hw212_0 :),(cB_ HB.out hw213_0 :),(cB_ HB.out hw213_1 :)⟩ (fun hHeld => ?_);refine with_tabW spec_MemoryOk.tab11 spec_MemoryOk.bits11 (fun HT_ HW_ => ?_)
               generalize wr.drew = w21 at BK208 HB HR212_0 HR213_1 hx212_0 hx213_0 hx213_1 hHeld ⊢
               refine pU_ 1 (some 32) (mk_ 12 2) ?_
               refine pU_ 3 (some 34) (mk_ 12 10) ?_
               refine pU_ 6 (some 37) (mk_ 12 74) ?_
               refine tK4_ 0 (some 31) (mk_ 12 75) ?_
               refine tK4_ 2 (some 33) (mk_ 12 79) ?_
               refine pU_ 4 (some 35) (mk_ 12 95) ?_
               refine tK4_ 5 (some 36) (mk_ 12 127) ?_
               refine pU_ 7 (some 38) (mk_ 12 255) ?_
               refine pU_ 8 (some 39) (mk_ 12 511) ?_
               refine tK4_ 9 (some 40) (mk_ 12 1023) ?_
               refine oN_ 10 (some 41) (mk_ 12 2047) (fun K hK => ?_)
               refine gO_ Try.func29 #[.agg #[.slice (some ad209) l0_0.length c0_0],.slice A213_1 ((rd_T43 (rd_L4 l0_0 x3_1) x4_2).f1).length c213_1] ?_
               with_reducible refine (spec_ViewOk.calls k2 _ _ l0_0 _ _ ((rd_T43 (rd_L4 l0_0 x3_1) x4_2).f1) false _ ?side1 ?side2 ?side3 ?side4 A15.out).mono ?_
               (case side1 => exact cS_ (Kd.C_below HR0_0.out HB.out))
               (case side2 => exact HC0_0.out)
               (case side3 => exact cS_ (Kd.C_below HR213_1.out HB.out))
               (case side4 => exact HC213_1.out)
               rintro e w22 ⟨rfl,hb⟩
               refine ⟨_,rfl,?_⟩
               have n0 := aM_ (nB_ BK208.out hb)
               have n1 := aM_ (sT_ HB.out hb)
               clear BK208
               clear HB
               have BK208 := n0
               have HB := n1
               clear n0 n1
               (try clear hb)
               (try clear hb2)
               (try clear hk)
               (try clear hi)
               refine hK.out _ _ ⟨(blk_cell BK208.out 0).trans rfl,(cB_ HB.out hw212_0 :),(cB_ HB.out hw213_0 :),(cB_ HB.out hw213_1 :)⟩ (fun hHeld => ?_)
               clear hK K
               refine norm_ (a' := ?_) ?_ ?_
               rotate_left
               ·show Act.put _ (some 41) _ = _
                simp only [pt_,pn_,sI_,s0_,s1_,i64_w,i32_w]
                rfl
               refine pU_ 11 (some 42) (mk_ 12 4095) ?_
               refine done_ (done_of HT_.out (by kernel_rfl)) ?_
               try go_wp2
               go_ret
               exact fI_ HB.out
             ·rw [if_neg c14] at H
              exact absurd H (by simp)
            ·rw [if_neg c13] at H
             have c13b0 : decide (x4_2 < ((rd_L4 l0_0 x3_1).length : Int)) = false := decide_eq_false c13
             clear c13
             have H' := aM_ H
             clear H
             have hcz23_0 : wr.cell? ⟨gb208,0,none⟩ = some (.slice (some ad209) l0_0.length c0_0) := (blk_cell BK208.out 0).trans rfl
             have hfz23_0 := blk_frozen BK208.out 0
             have p211 : 0 ≤ (x3_1 : Int) := of_decide_eq_true (by first | (with_reducible assumption) | assumption)
             have q211 : x3_1 < (l0_0.length : Int) := of_decide_eq_true (by first | (with_reducible assumption) | assumption)
             obtain ⟨ad211,A211_0,c211_0,e211,hx211_0,hl211_0,hi211_0⟩ := at_L4 HR0_0.out x3_1 p211 q211
             obtain rfl : ad209 = ad211 := (by injection e211)
             replace hx211_0 := cB_ HB.out hx211_0
             have HR211_0 := aM_ hi211_0
             have HC211_0 := aM_ hl211_0
             clear hi211_0 hl211_0
             replace p211 := eq_true p211
             replace q211 := eq_true q211
             go_wp2
             go_roundg k2
             case measure => have := HK1.out;have := HK2.out;omega
             case rel => exact ⟨(wrap64 (x3_1 + 1)),(by first | rfl | (simp;done) | (simp [*];done)),H',⟨by have := HK1.out;have := HK2.out;omega⟩,⟨rW_ BK208.out⟩,⟨gW_ HB.out⟩⟩
           ·rw [if_neg c12] at H
            exact absurd H (by simp)
          ·rw [if_neg c11] at H
           exact absurd H (by simp)
       ·replace c9 := Bool.eq_false_iff.mpr c9
        subst c9
        have H1 : (some false) = some r := by rw [if_neg (show ¬ (false = true) by decide)] at H;exact H
        clear H
        have H := H1
        clear H1
        obtain rfl := Option.some.inj H
        have hcz24_0 : wr.cell? ⟨gb208,0,none⟩ = some (.slice A0_0 l0_0.length c0_0) := (blk_cell BK208.out 0).trans rfl
        have hfz24_0 := blk_frozen BK208.out 0
        have p209 : 0 ≤ (x3_1 : Int) := of_decide_eq_true (by first | (with_reducible assumption) | assumption)
        have q209 : x3_1 < (l0_0.length : Int) := of_decide_eq_true (by first | (with_reducible assumption) | assumption)
        obtain ⟨ad209,A209_0,c209_0,e209,hx209_0,hl209_0,hi209_0⟩ := at_L4 HR0_0.out x3_1 p209 q209
        cases e209
        replace hx209_0 := cB_ HB.out hx209_0
        have HR209_0 := aM_ hi209_0
        have HC209_0 := aM_ hl209_0
        clear hi209_0 hl209_0
        replace p209 := eq_true p209
        replace q209 := eq_true q209
        go_wp2_with (first | ((with_reducible refine gate_callee (f := 69) rfl ?_);refine gL_ (some 19) Try.func69 #[.int .i64 ((rd_L4 l0_0 x3_1).length : Int),.int .i64 1,.int .i64 4000] ?_;(with_reducible refine (spec_l1In.calls ((rd_L4 l0_0 x3_1).length : Int) 1 4000 false _ A8.out).mono ?_);rintro e w' ⟨rfl,⟨nd,rfl⟩⟩;refine ⟨_,rfl,?_⟩))
        go_ret
        exact fI_ HB.out
      ·rw [if_neg c7] at H
       exact absurd H (by simp)
     ·rw [if_neg c6] at H
      exact absurd H (by simp)
    ·rw [if_neg c5] at H
     have c5b0 : decide (x3_1 < 24) = false := decide_eq_false c5
     clear c5
     obtain rfl := Option.some.inj H
     go_wp2
     go_ret
     exact fI_ HB.out
 ·rw [if_neg c2] at H
  have c2b0 : ((l0_0.length : Int) == 24) = false := beq_eq_false_iff_ne.mpr c2
  have c2b1 : ((l0_0.length : Int) != 24) = true := bne_iff_ne.mpr c2
  obtain rfl := Option.some.inj H
  go_enter Try.func27,Try.ntmps27
  go_wp2_with (first | ((with_reducible refine gate_dst (N := 1) rfl ?_);refine bX_ 1 (cs := #[.slice A0_0 l0_0.length c0_0]) (t := 24) ?_;intro gb208 hg w25 hbox hb;have n0 := aM_ (sT_ HB.out hb);have n1 := aM_ (hbox);have n2 := aM_ (sZ_ hg HB.out);have n3 := aM_ (sZ_ hg HB.out);clear HB;have HB := n0;have BK208 := n1;have GW208 := n2;have GE208 := n3;clear n0 n1 n2 n3;clear hb hbox hg;have hcz26_0 : w25.cell? ⟨gb208,0,none⟩ = some (.slice A0_0 l0_0.length c0_0) := (blk_cell BK208.out 0).trans rfl;have hfz26_0 := blk_frozen BK208.out 0))
  go_ret
  exact fI_ HB.out
def IsS119 (w0 W : World) (g : Nat) (f0 : List Int) (f1 : Int) (f2 : Int) : Prop := ∃ A0 c0,W.heap[g]? = some (.cells #[.slice A0 f0.length c0,.int .i64 f1,.int .i64 f2] 119 (0,0)) ∧ w0.heap.size ≤ g ∧ Kd.C (Kd.int .u8) w0 A0 f0.length f0
theorem IsS119.grown {w0 W : World} {g : Nat} {f0 : List Int} {f1 : Int} {f2 : Int} {W1 : World} {row : Option Nat} (h : IsS119 w0 W g f0 f1 f2) (hw : W.grownBy W1 row) (hne : some g ≠ row) : IsS119 w0 W1 g f0 f1 f2 := by
 obtain ⟨A0,c0,hb,hg,hr0⟩ := h
 exact ⟨A0,c0,blk_grown hb hw hne,hg,hr0⟩
theorem IsS119.fresh {w0 W : World} {g : Nat} {f0 : List Int} {f1 : Int} {f2 : Int} (h : IsS119 w0 W g f0 f1 f2) : ∀ k,W.heap.size ≤ k → k ≠ g := by
 obtain ⟨A0,c0,hb,hg,hr0⟩ := h
 exact Kd.freshB hb
theorem IsS119.kept {w0 W : World} {g : Nat} {f0 : List Int} {f1 : Int} {f2 : Int} {W1 : World} {S : Nat → Prop} (h : IsS119 w0 W g f0 f1 f2) (hk : Kept W W1 S) (hne : ¬ S g) : IsS119 w0 W1 g f0 f1 f2 := by
 obtain ⟨A0,c0,hb,hg,hr0⟩ := h
 exact ⟨A0,c0,blk_kept hb hk hne,hg,hr0⟩
theorem IsS119.below {w0 W : World} {g : Nat} {f0 : List Int} {f1 : Int} {f2 : Int} {W1 : World} (h : IsS119 w0 W g f0 f1 f2) (hw : Below W.heap.size W W1) : IsS119 w0 W1 g f0 f1 f2 := h.grown (grown_of_below hw none) (by simp)
theorem IsS119.alloc {w0 W : World} {g : Nat} {f0 : List Int} {f1 : Int} {f2 : Int} (h : IsS119 w0 W g f0 f1 f2) (o : Obj) : IsS119 w0 (W.alloc o) g f0 f1 f2 := h.below (below_alloc (Below.refl _ _) o)
theorem IsS119.drewN {w0 W : World} {g : Nat} {f0 : List Int} {f1 : Int} {f2 : Int} (h : IsS119 w0 W g f0 f1 f2) (m : Nat) : IsS119 w0 (W.drewN m) g f0 f1 f2 := h
theorem IsS119.drew {w0 W : World} {g : Nat} {f0 : List Int} {f1 : Int} {f2 : Int} (h : IsS119 w0 W g f0 f1 f2) : IsS119 w0 W.drew g f0 f1 f2 := h
theorem IsS119.at_ {w0 W : World} {g : Nat} {f0 : List Int} {f1 : Int} {f2 : Int} {w' : World} {m : Nat} (hq : W.drewN m = w') (h : IsS119 w0 W g f0 f1 f2) : IsS119 w0 w' g f0 f1 f2 := by subst hq;exact IsS119.drewN h m
theorem IsS119.apart {w0 W : World} {g : Nat} {f0 : List Int} {f1 : Int} {f2 : Int} {α : Type} {d : Kd α} {e : Nat} {base : Nat} {ok : Nat → Prop} {v : Value} {xs : List α} (h : IsS119 w0 W g f0 f1 f2) (ho : d.R e W base ok v xs) (ht : ∀ q,q ∈ e :: d.E → q ≠ 119) : d.R e W base (fun k => ok k ∧ k ≠ g) v xs := by
 obtain ⟨A0,c0,hb,hg,hr0⟩ := h
 exact Kd.R_types ho hb ht
theorem IsS119.own_ne {w0 W : World} {g : Nat} {f0 : List Int} {f1 : Int} {f2 : Int} {α : Type} {d : Kd α} {e : Nat} {base : Nat} {ok : Nat → Prop} {v : Value} {xs : List α} (h : IsS119 w0 W g f0 f1 f2) (ho : d.R e W base ok v xs) (ht : e ≠ 119) : some g ≠ v.ownBlock := by
 obtain ⟨A0,c0,hb,hg,hr0⟩ := h
 exact Kd.R_ne ho hb ht
theorem IsS119.apartQ {w0 W : World} {g : Nat} {f0 : List Int} {f1 : Int} {f2 : Int} {α : Type} {d : Kd α} {e : Nat} {base : Nat} {ok : Nat → Prop} {v : Value} {xs : List α} (h : IsS119 w0 W g f0 f1 f2) (ho : d.Q e W base ok v xs) (ht : ∀ q,q ∈ e :: d.E → q ≠ 119) : d.Q e W base (fun k => ok k ∧ k ≠ g) v xs := by
 obtain ⟨A0,c0,hb,hg,hr0⟩ := h
 exact Kd.Q_types ho hb ht
theorem IsS119.apartS {w0 W : World} {g : Nat} {f0 : List Int} {f1 : Int} {f2 : Int} {α : Type} {d : Kd α} {e : Nat} {base : Nat} {ok : Nat → Prop} {v : Value} {xs : List α} (h : IsS119 w0 W g f0 f1 f2) (ho : d.S e W base ok v xs) (ht : ∀ q,q ∈ e :: d.E → q ≠ 119) : d.S e W base (fun k => ok k ∧ k ≠ g) v xs := by
 obtain ⟨A0,c0,hb,hg,hr0⟩ := h
 exact Kd.S_types ho hb ht
theorem IsS119.own_neS {w0 W : World} {g : Nat} {f0 : List Int} {f1 : Int} {f2 : Int} {α : Type} {d : Kd α} {e : Nat} {base : Nat} {ok : Nat → Prop} {v : Value} {xs : List α} (h : IsS119 w0 W g f0 f1 f2) (ho : d.S e W base ok v xs) (ht : e ≠ 119) : some g ≠ v.ownBlock := by
 obtain ⟨A0,c0,hb,hg,hr0⟩ := h
 exact Kd.S_ne ho hb ht
theorem IsS119.lt {w0 W : World} {g : Nat} {f0 : List Int} {f1 : Int} {f2 : Int} (h : IsS119 w0 W g f0 f1 f2) : g < W.heap.size := by
 obtain ⟨A0,c0,hb,hg,hr0⟩ := h
 exact blk_lt hb
theorem IsS119.ge {w0 W : World} {g : Nat} {f0 : List Int} {f1 : Int} {f2 : Int} (h : IsS119 w0 W g f0 f1 f2) : w0.heap.size ≤ g := by
 obtain ⟨A0,c0,hb,hg,hr0⟩ := h
 exact hg
theorem IsS119.ne_blk {w0 W : World} {g : Nat} {f0 : List Int} {f1 : Int} {f2 : Int} {a : Nat} {cs : Array Value} {t : TypeId} {fr : Nat × Nat} (h : IsS119 w0 W g f0 f1 f2) (hb2 : W.heap[a]? = some (.cells cs t fr)) (ht : t ≠ 119) : g ≠ a := by
 obtain ⟨A0,c0,hb,hg,hr0⟩ := h
 rintro rfl
 rw [hb] at hb2
 injection hb2 with hb2
 injection hb2 with _ ht2
 exact ht ht2.symm
theorem IsS119.far {w0 W : World} {g : Nat} {f0 : List Int} {f1 : Int} {f2 : Int} {p : Addr} (h : IsS119 w0 W g f0 f1 f2) (hne : g ≠ p.block) (u : Value) : IsS119 w0 (W.setCell p u) g f0 f1 f2 := by
 obtain ⟨A0,c0,hb,hg,hr0⟩ := h
 exact ⟨A0,c0,blk_far hb hne u,hg,hr0⟩
theorem cellS119_0 {W : World} {g : Nat} {A0 : Option Addr} {c0 : Nat} {f0 : List Int} {f1 : Int} {f2 : Int} (h : W.heap[g]? = some (.cells #[.slice A0 f0.length c0,.int .i64 f1,.int .i64 f2] 119 (0,0))) : W.cell? ⟨g,0,none⟩ = some (.slice A0 f0.length c0) := (blk_cell h 0).trans rfl
theorem cellS119_1 {W : World} {g : Nat} {A0 : Option Addr} {c0 : Nat} {f0 : List Int} {f1 : Int} {f2 : Int} (h : W.heap[g]? = some (.cells #[.slice A0 f0.length c0,.int .i64 f1,.int .i64 f2] 119 (0,0))) : W.cell? ⟨g,1,none⟩ = some (.int .i64 f1) := (blk_cell h 1).trans rfl
theorem IsS119.set_1 {w0 W : World} {g : Nat} {f0 : List Int} {f1 : Int} {f2 : Int} (h : IsS119 w0 W g f0 f1 f2) (x : Int) : IsS119 w0 (W.setCell ⟨g,1,none⟩ (.int .i64 x)) g f0 x f2 := by
 obtain ⟨A0,c0,hb,hg,hr0⟩ := h
 exact ⟨A0,c0,by simpa using blk_set hb 1 (.int .i64 x),hg,hr0⟩
theorem cellS119_2 {W : World} {g : Nat} {A0 : Option Addr} {c0 : Nat} {f0 : List Int} {f1 : Int} {f2 : Int} (h : W.heap[g]? = some (.cells #[.slice A0 f0.length c0,.int .i64 f1,.int .i64 f2] 119 (0,0))) : W.cell? ⟨g,2,none⟩ = some (.int .i64 f2) := (blk_cell h 2).trans rfl
theorem IsS119.set_2 {w0 W : World} {g : Nat} {f0 : List Int} {f1 : Int} {f2 : Int} (h : IsS119 w0 W g f0 f1 f2) (x : Int) : IsS119 w0 (W.setCell ⟨g,2,none⟩ (.int .i64 x)) g f0 f1 x := by
 obtain ⟨A0,c0,hb,hg,hr0⟩ := h
 exact ⟨A0,c0,by simpa using blk_set hb 2 (.int .i64 x),hg,hr0⟩
theorem gI119_ {w0 W W1 : World} {g : Nat} {f0 : List Int} {f1 : Int} {f2 : Int} {f0' : List Int} {f1' : Int} {f2' : Int} (h : IsS119 w0 W g f0 f1 f2) (hr : IsS119 w0 W g f0 f1 f2 → IsS119 w0 W1 g f0' f1' f2' := by (intro h_;repeat (first | (with_reducible first | exact h_ | apply IsS119.alloc | apply IsS119.drewN | apply IsS119.drew | apply IsS119.set_1 | apply IsS119.set_2 | refine IsS119.far ?_ (Aside0.out (by assumption)) _) | exact h_))) : IsS119 w0 W1 g f0' f1' f2' := hr h
def spec_l1New.l0 : Nat → List Int → Int → Int → Option (List Int × Int × Int)
  | 0,_,_,_ => none
  | k + 1,x0,x3,x4 => if x4 < (x0.length : Int) then (if x4 < 4000 then (if 0 ≤ x4 then (spec_l1New.l0 k x0 (Go.bits .and .i64 (wrap64 ((wrap64 ((wrap64 (x3 * 131)) + (wrap64 (rd x0 x4)))) + 7)) 1073741823) (wrap64 (x4 + 1))) else (none)) else (some (x0,0,x3))) else (some (x0,0,x3))
def spec_l1New.f (k : Nat) (l0 : List Int) : Option (List Int × Int × Int) := spec_l1New.l0 k l0 (wrap64 (18813 + (l0.length : Int))) 0
set_option maxHeartbeats 8000000 in
set_option maxRecDepth 100000 in
theorem spec_l1New.calls (k : Nat) (A0 : Option Addr) (c0 : Nat) (l0 : List Int) (r1 : List Int) (r2 : Int) (r3 : Int) (w0 w : World) (hB : Below w0.heap.size w0 w) (hr0 : Kd.C (Kd.int .u8) w0 A0 l0.length l0) (hc0 : l0.length ≤ c0) (h : spec_l1New.f k l0 = some (r1,r2,r3)) :
  Calls Try.prog 63 #[.slice A0 l0.length c0] w fun e w' => ∃ g_ : Nat,e = .returned (.pointer (some ⟨g_,0,none⟩)) ∧ IsS119 w0 w' g_ r1 r2 r3 ∧ Below w0.heap.size w0 w' ∧ Below w.heap.size w w' := by
 have hu119 := Try.underlying119
 have HR0 := aM_ hr0
 have HC0 := aM_ hc0
 clear hr0 hc0
 have HBW := aM_ (Below.refl w.heap.size w)
 have HW0 := aM_ hB.size
 have HB := aM_ hB
 clear hB
 have H : (spec_l1New.l0 k l0 (wrap64 (18813 + (l0.length : Int))) 0) = some (r1,r2,r3) := h
 clear h
 have H' := aM_ H
 clear H
 go_enter Try.func63,Try.ntmps63
 go_wp2
 go_loopg [3,4] k (fun kq v3 v4 w' => ∃ (x3_1 : Int) (x4_1 : Int),v3 = .int .i64 x3_1 ∧ v4 = .int .i64 x4_1 ∧ Aside0 (spec_l1New.l0 kq l0 x3_1 x4_1 = some (r1,r2,r3)) ∧ Aside0 (kq ≤ k) ∧ Aside0 (Below w0.heap.size w0 w') ∧ Aside0 (Below w.heap.size w w'))
 case atStart => exact ⟨(wrap64 (18813 + (l0.length : Int))),(0),(by first | rfl | (simp;done) | (simp [*];done)),(by first | rfl | (simp;done) | (simp [*];done)),H',⟨Nat.le_refl _⟩,⟨gW_ HB.out⟩,⟨gB_ HBW.out⟩⟩
 case round =>
  clear H'
  obtain ⟨x3_1,x4_1,rfl,rfl,HA,HK1,HB,HBW⟩ := hrel
  cases gk with
  | zero => exact absurd HA.out (by simp [spec_l1New.l0])
  | succ k1 =>
   have H := HA.out
   clear HA
   simp only [spec_l1New.l0] at H
   by_cases c2 : x4_1 < (l0.length : Int)
   ·rw [if_pos c2] at H
    have c2b0 : decide (x4_1 < (l0.length : Int)) = true := decide_eq_true c2
    clear c2
    by_cases c3 : x4_1 < 4000
    ·rw [if_pos c3] at H
     have c3b0 : decide (x4_1 < 4000) = true := decide_eq_true c3
     clear c3
     by_cases c4 : 0 ≤ x4_1
     ·rw [if_pos c4] at H
      have c4b0 : decide (0 ≤ x4_1) = true := decide_eq_true c4
      clear c4
      have H' := aM_ H
      clear H
      have p215 : 0 ≤ (x4_1 : Int) := of_decide_eq_true (by first | (with_reducible assumption) | assumption)
      have q215 : x4_1 < (l0.length : Int) := of_decide_eq_true (by first | (with_reducible assumption) | assumption)
      obtain ⟨ad215,e215,hx215_0⟩ := Kd.at_int HR0.out x4_1 p215 q215
      cases e215
      replace hx215_0 := pw_cell_below HB.out hx215_0
      replace p215 := eq_true p215
      replace q215 := eq_true q215
      go_wp2
      go_roundg k1
      case measure => have := HK1.out;omega
      case rel => exact ⟨(Go.bits .and .i64 (wrap64 ((wrap64 ((wrap64 (x3_1 * 131)) + (wrap64 (rd l0 x4_1)))) + 7)) 1073741823),(wrap64 (x4_1 + 1)),(by first | rfl | (simp;done) | (simp [*];done)),(by first | rfl | (simp;done) | (simp [*];done)),H',⟨by have := HK1.out;omega⟩,⟨gW_ HB.out⟩,⟨gB_ HBW.out⟩⟩
     ·rw [if_neg c4] at H
      exact absurd H (by simp)
    ·rw [if_neg c3] at H
     have c3b0 : decide (x4_1 < 4000) = false := decide_eq_false c3
     clear c3
     simp only [Option.some.injEq,Prod.mk.injEq] at H
     obtain ⟨rfl,rfl,rfl⟩ := H
     go_wp2_with (first | ((with_reducible refine gate_dst (N := 31) rfl ?_);refine bX_ 31 (cs := #[.slice A0 l0.length c0,.int .i64 0,.int .i64 x3_1]) (t := 119) ?_;intro gb216 hg w5 hbox hb;have n0 := aM_ (below_step HBW.out hb);have n1 := aM_ (sT_ HB.out hb);have n2 := aM_ (hbox);have n3 := aM_ ((by rw [hg];exact (below_size (gB_ HBW.out)) : w.heap.size ≤ gb216));have n4 := aM_ ((Nat.le_trans HW0.out (by rw [hg];exact (below_size (gB_ HBW.out)) : w.heap.size ≤ gb216) : w0.heap.size ≤ gb216));clear HBW;clear HB;have HBW := n0;have HB := n1;have BK216 := n2;have GW216 := n3;have GE216 := n4;clear n0 n1 n2 n3 n4;clear hb hbox hg))
     go_ret
     exact ⟨_,rfl,(show IsS119 w0 _ gb216 l0 0 x3_1 from ⟨_,_,by (with_reducible repeat (first | refine bN_ ?_ _ | refine bD_ ?_ | refine bA_ ?_ _));exact BK216.out,GE216.out,HR0.out⟩),gB_ HB.out,gB_ HBW.out⟩
   ·rw [if_neg c2] at H
    have c2b0 : decide (x4_1 < (l0.length : Int)) = false := decide_eq_false c2
    clear c2
    simp only [Option.some.injEq,Prod.mk.injEq] at H
    obtain ⟨rfl,rfl,rfl⟩ := H
    go_wp2_with (first | ((with_reducible refine gate_dst (N := 31) rfl ?_);refine bX_ 31 (cs := #[.slice A0 l0.length c0,.int .i64 0,.int .i64 x3_1]) (t := 119) ?_;intro gb217 hg w6 hbox hb;have n0 := aM_ (below_step HBW.out hb);have n1 := aM_ (sT_ HB.out hb);have n2 := aM_ (hbox);have n3 := aM_ ((by rw [hg];exact (below_size (gB_ HBW.out)) : w.heap.size ≤ gb217));have n4 := aM_ ((Nat.le_trans HW0.out (by rw [hg];exact (below_size (gB_ HBW.out)) : w.heap.size ≤ gb217) : w0.heap.size ≤ gb217));clear HBW;clear HB;have HBW := n0;have HB := n1;have BK217 := n2;have GW217 := n3;have GE217 := n4;clear n0 n1 n2 n3 n4;clear hb hbox hg))
    go_ret
    exact ⟨_,rfl,(show IsS119 w0 _ gb217 l0 0 x3_1 from ⟨_,_,by (with_reducible repeat (first | refine bN_ ?_ _ | refine bD_ ?_ | refine bA_ ?_ _));exact BK217.out,GE217.out,HR0.out⟩),gB_ HB.out,gB_ HBW.out⟩
def spec_l1Byte.f (s0_0 : List Int) (s0_1 : Int) (s0_2 : Int) : Option (Int × Int × Int) := if s0_1 < (s0_0.length : Int) then (if 0 ≤ s0_1 then (some (Go.bits .and .i64 (wrap64 ((Go.bits .and .i64 (Go.bits .xor .i64 ((wrap64 ((wrap64 (s0_2 * 6364136223846793005)) + 1442695040888963407)) / 8589934592) ((wrap64 ((wrap64 (s0_2 * 6364136223846793005)) + 1442695040888963407)) / 35184372088832)) 255) + (wrap64 (rd s0_0 s0_1)))) 255,wrap64 (s0_1 + 1),wrap64 ((wrap64 (s0_2 * 6364136223846793005)) + 1442695040888963407))) else (none)) else (some (Go.bits .and .i64 (Go.bits .xor .i64 ((wrap64 ((wrap64 (s0_2 * 6364136223846793005)) + 1442695040888963407)) / 8589934592) ((wrap64 ((wrap64 (s0_2 * 6364136223846793005)) + 1442695040888963407)) / 35184372088832)) 255,s0_1,wrap64 ((wrap64 (s0_2 * 6364136223846793005)) + 1442695040888963407)))
set_option maxHeartbeats 8000000 in
set_option maxRecDepth 100000 in
theorem spec_l1Byte.calls (g : Nat) (s0_0 : List Int) (s0_1 : Int) (s0_2 : Int) (r1 : Int) (r2 : Int) (r3 : Int) (w0 w : World) (hI : IsS119 w0 w g s0_0 s0_1 s0_2) (hB : Below w0.heap.size w0 w) (h : spec_l1Byte.f s0_0 s0_1 s0_2 = some (r1,r2,r3)) :
  Calls Try.prog 107 #[.pointer (some ⟨g,0,none⟩)] w fun e w' => e = .returned (.int .i64 r1) ∧ IsS119 w0 w' g s0_0 r2 r3 ∧ Below w0.heap.size w0 w' ∧ KeepBut w w' g none := by
 have HI0 := aM_ hI
 have HK := aM_ (KeepBut.refl w g none)
 have HL := aM_ hB.size
 clear hI
 have HW0 := aM_ hB.size
 have HB := aM_ hB
 clear hB
 have H : (if s0_1 < (s0_0.length : Int) then (if 0 ≤ s0_1 then (some (Go.bits .and .i64 (wrap64 ((Go.bits .and .i64 (Go.bits .xor .i64 ((wrap64 ((wrap64 (s0_2 * 6364136223846793005)) + 1442695040888963407)) / 8589934592) ((wrap64 ((wrap64 (s0_2 * 6364136223846793005)) + 1442695040888963407)) / 35184372088832)) 255) + (wrap64 (rd s0_0 s0_1)))) 255,wrap64 (s0_1 + 1),wrap64 ((wrap64 (s0_2 * 6364136223846793005)) + 1442695040888963407))) else (none)) else (some (Go.bits .and .i64 (Go.bits .xor .i64 ((wrap64 ((wrap64 (s0_2 * 6364136223846793005)) + 1442695040888963407)) / 8589934592) ((wrap64 ((wrap64 (s0_2 * 6364136223846793005)) + 1442695040888963407)) / 35184372088832)) 255,s0_1,wrap64 ((wrap64 (s0_2 * 6364136223846793005)) + 1442695040888963407)))) = some (r1,r2,r3) := h
 clear h
 by_cases c2 : s0_1 < (s0_0.length : Int)
 ·rw [if_pos c2] at H
  have c2b0 : decide (s0_1 < (s0_0.length : Int)) = true := decide_eq_true c2
  clear c2
  by_cases c3 : 0 ≤ s0_1
  ·rw [if_pos c3] at H
   have c3b0 : decide (0 ≤ s0_1) = true := decide_eq_true c3
   clear c3
   simp only [Option.some.injEq,Prod.mk.injEq] at H
   obtain ⟨rfl,rfl,rfl⟩ := H
   obtain ⟨ASz4_0,cSz4_0,HGz4,hgz4,HSz4_0⟩ := HI0.out
   have hcz4_0 := cellS119_0 HGz4
   have hcz4_1 := cellS119_1 HGz4
   have hcz4_2 := cellS119_2 HGz4
   have hfz4_1 := blk_frozen HGz4 1
   have hfz4_2 := blk_frozen HGz4 2
   clear HGz4 hgz4
   have p218 : 0 ≤ (s0_1 : Int) := of_decide_eq_true (by first | (with_reducible assumption) | assumption)
   have q218 : s0_1 < (s0_0.length : Int) := of_decide_eq_true (by first | (with_reducible assumption) | assumption)
   obtain ⟨ad218,e218,hx218_0⟩ := Kd.at_int HSz4_0 s0_1 p218 q218
   cases e218
   have hn218_0 : ad218.block ≠ g := Nat.ne_of_lt (Nat.lt_of_lt_of_le (by have := World.block_lt_of_cell? _ _ hx218_0;first | rwa [add_block] at this | exact this) (IsS119.ge HI0.out))
   replace hx218_0 := pw_cell_below HB.out hx218_0
   replace hx218_0 := (cell_far (p := ⟨g,2,none⟩) (by first | (rw [add_block];exact hn218_0) | (show (Addr.add _ _).block ≠ _;rw [add_block];exact hn218_0) | exact hn218_0) (.int .i64 (wrap64 ((wrap64 (s0_2 * 6364136223846793005)) + 1442695040888963407)))).trans hx218_0
   (try have hy218_0 := fun (n_ : Nat) => (show (((w.drewN n_).setCell ⟨g,2,none⟩ (.int .i64 (wrap64 ((wrap64 (s0_2 * 6364136223846793005)) + 1442695040888963407))))).cell? _ = some _ from hx218_0))
   clear hn218_0
   replace p218 := eq_true p218
   replace q218 := eq_true q218
   go_enter Try.func107,Try.ntmps107
   go_wp2
   repeat (go_quiet (fail);try go_wp2)
   go_ret
   exact ⟨fR_,gI119_ HI0.out,gB119_ HB.out,gK_ HK.out⟩
  ·rw [if_neg c3] at H
   exact absurd H (by simp)
 ·rw [if_neg c2] at H
  have c2b0 : decide (s0_1 < (s0_0.length : Int)) = false := decide_eq_false c2
  clear c2
  simp only [Option.some.injEq,Prod.mk.injEq] at H
  obtain ⟨rfl,rfl,rfl⟩ := H
  obtain ⟨ASz5_0,cSz5_0,HGz5,hgz5,HSz5_0⟩ := HI0.out
  have hcz5_0 := cellS119_0 HGz5
  have hcz5_1 := cellS119_1 HGz5
  have hcz5_2 := cellS119_2 HGz5
  have hfz5_1 := blk_frozen HGz5 1
  have hfz5_2 := blk_frozen HGz5 2
  clear HGz5 hgz5
  go_enter Try.func107,Try.ntmps107
  go_wp2
  repeat (go_quiet (fail);try go_wp2)
  go_ret
  exact ⟨fR_,gI119_ HI0.out,gB119_ HB.out,gK_ HK.out⟩
end Go.Proofs.Ythbcnakmnbilhaa.PFnStore
