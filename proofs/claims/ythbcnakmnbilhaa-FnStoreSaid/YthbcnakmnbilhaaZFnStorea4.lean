/- A part of the proof that the law FnStore holds for every input: the words, functions and walks that its row needs, without a condition of their own. -/
import Derived.Test.YthbcnakmnbilhaaZFnStorea2
import Derived.Test.YthbcnakmnbilhaaZFnStorea3
import Derived.Test.YthbcnakmnbilhaaZFnStores
namespace Go.Proofs.Ythbcnakmnbilhaa.PFnStore
open Go.RowKit Go.Proofs.YthbcnakmnbilhaaW.PrintWords Go.Proofs.YthbcnakmnbilhaaW.PrintLast Go.Proofs.YthbcnakmnbilhaaW.PrintMore Go.Proofs.Ythbcnakmnbilhaa.SepMark
attribute [local go_sem] max2_int min2_int max_two min_two max_three min_three max_four min_four   -- for this text's walks alone
set_option linter.unusedVariables false
set_option linter.unusedSimpArgs false
mutual
def impl_copyMemory.l0 : Nat → List (List (S43)) → Int → Int → List (List (S43)) → Option ((List (List (S43))))
  | 0,_,_,_,_ => none
  | k + 1,x11,x12,x13,x120000 => if x13 < x12 then (if 0 ≤ x13 then (if x13 < (x11.length : Int) then (impl_copyMemory.l1 k (([] : List (S43))) x11 x12 x13 (rd_L4 x11 x13) ((rd_L4 x11 x13).length : Int) 0 x120000) else (none)) else (none)) else (some x120000)
def impl_copyMemory.l1 : Nat → List (S43) → List (List (S43)) → Int → Int → List (S43) → Int → Int → List (List (S43)) → Option ((List (List (S43))))
  | 0,_,_,_,_,_,_,_,_ => none
  | k + 1,x6,x11,x12,x13,x18,x19,x20,x120000 => if x20 < x19 then (if 0 ≤ x20 then (if x20 < (x18.length : Int) then ((impl_copyInts.f ((rd_T43 x18 x20).f1)).bind fun t126 => (if x6.length < 4398046511104 then (impl_copyMemory.l1 k (x6 ++ [(⟨(rd_T43 x18 x20).f0,t126⟩ : S43)]) x11 x12 x13 x18 x19 (wrap64 (x20 + 1)) x120000) else (none))) else (none)) else (none)) else (if x120000.length < 5864062014805 then (impl_copyMemory.l0 k x11 x12 (wrap64 (x13 + 1)) (x120000 ++ [x6])) else (none))
end
def impl_copyMemory.f (k : Nat) (l0_0 : List (List (S43))) : Option ((List (List (S43)))) := impl_copyMemory.l0 k l0_0 (l0_0.length : Int) 0 ([] : List (List (S43)))
def impl_copyMemory.T9 : Bool × List (List Nat × List Nat) := (true,[([],[]),([],[]),([1],[1]),([],[]),([3],[3]),([4],[4]),([2,5],[2,5]),([6],[6]),([0,7,5],[0,7]),([8,8,0,1,2,3,4,5,6,7,8],[0,8])])
def impl_copyMemory.B9 : List Nat := [0,0,2,0,8,24,62,126,255,511]
theorem impl_copyMemory.tab9 : rtab .any (opsOf Try.f55 9) = impl_copyMemory.T9 := by kernel_rfl
theorem impl_copyMemory.bits9 : waitsOk impl_copyMemory.T9.2 impl_copyMemory.B9 = true := by kernel_rfl
set_option maxHeartbeats 8000000 in
set_option maxRecDepth 100000 in
theorem impl_copyMemory.calls (k : Nat) (A0_0 : Option Addr) (c0_0 : Nat) (l0_0 : List (List (S43))) (r : List (List (S43))) (w00 : World) (hr0_0 : Kd.C (Kd.slice 43 k43) w00 A0_0 l0_0.length l0_0) (hc0_0 : l0_0.length ≤ c0_0) (h : impl_copyMemory.f k l0_0 = some r) :
  Calls Try.prog 55 #[.agg #[.slice A0_0 l0_0.length c0_0]] w00 fun e w' => ∃ v0_ : Value,e = .returned (.agg #[v0_]) ∧ Kd.S (sslice 43 k43) 44 w' w00.heap.size (fun _ => True) v0_ r ∧ Below w00.heap.size w00 w' := by
 have hu24 := Try.underlying24
 have hu43 := Try.underlying43
 have HR0_0 := aM_ hr0_0
 have HC0_0 := aM_ hc0_0
 clear hr0_0 hc0_0
 have HB := aM_ (Below.refl w00.heap.size w00)
 have H : (impl_copyMemory.l0 k l0_0 (l0_0.length : Int) 0 ([] : List (List (S43)))) = some r := h
 clear h
 have H' := aM_ H
 clear H
 go_enter Try.func55,Try.ntmps55
 go_wp2_with (first | ((with_reducible refine gate_dst (N := 1) rfl ?_);refine bX_ 1 (cs := #[.slice A0_0 l0_0.length c0_0]) (t := 24) ?_;intro gb117 hg w2 hbox hb;have n0 := aM_ (sT_ HB.out hb);have n1 := aM_ (hbox);have n2 := aM_ ((by rw [hg];exact (below_size (gB_ HB.out)) : w00.heap.size ≤ gb117));have n3 := aM_ ((by rw [hg];exact (below_size (gB_ HB.out)) : w00.heap.size ≤ gb117));clear HB;have HB := n0;have BK117 := n1;have GW117 := n2;have GE117 := n3;clear n0 n1 n2 n3;clear hb hbox hg) | ((with_reducible refine gate_dst (N := 2) rfl ?_);refine bX_ 2 (cs := #[.slice none 0 0]) (t := 24) ?_;intro gb118 hg w3 hbox hb;have n0 := aM_ (nB_ BK117.out hb);have n1 := aM_ (sT_ HB.out hb);have n2 := aM_ (hbox);have n3 := aM_ ((by rw [hg];exact (below_size (gB_ HB.out)) : w00.heap.size ≤ gb118));have n4 := aM_ ((by rw [hg];exact (below_size (gB_ HB.out)) : w00.heap.size ≤ gb118));have n5 := aM_ (nL_ hg BK117.out);have n6 := aM_ (nG_ hg BK117.out);clear BK117;clear HB;have BK117 := n0;have HB := n1;have BK118 := n2;have GW118 := n3;have GE118 := n4;have NB117_118 := n5;have NB118_117 := n6;clear n0 n1 n2 n3 n4 n5 n6;clear hb hbox hg) | ((with_reducible refine gate_dst (N := 3) rfl ?_);refine bX_ 3 (cs := #[.slice none 0 0]) (t := 24) ?_;intro gb119 hg w4 hbox hb;have n0 := aM_ (nB_ BK117.out hb);have n1 := aM_ (nB_ BK118.out hb);have n2 := aM_ (sT_ HB.out hb);have n3 := aM_ (hbox);have n4 := aM_ ((by rw [hg];exact (below_size (gB_ HB.out)) : w00.heap.size ≤ gb119));have n5 := aM_ ((by rw [hg];exact (below_size (gB_ HB.out)) : w00.heap.size ≤ gb119));have n6 := aM_ (nL_ hg BK117.out);have n7 := aM_ (nG_ hg BK117.out);have n8 := aM_ (nL_ hg BK118.out);have n9 := aM_ (nG_ hg BK118.out);clear BK117;clear BK118;clear HB;have BK117 := n0;have BK118 := n1;have HB := n2;have BK119 := n3;have GW119 := n4;have GE119 := n5;have NB117_119 := n6;have NB119_117 := n7;have NB118_119 := n8;have NB119_118 := n9;clear n0 n1 n2 n3 n4 n5 n6 n7 n8 n9;clear hb hbox hg;have hnb5 := NB119_117.out;have hnc5 := NB117_119.out;have hnb6 := NB119_118.out;have hnc6 := NB118_119.out;have hcz7_0 : w4.cell? ⟨gb119,0,none⟩ = some (.slice none 0 0) := (blk_cell BK119.out 0).trans rfl;have hfz7_0 := blk_frozen BK119.out 0;have hnb8 := NB117_118.out;have hnc8 := NB118_117.out;have hcz9_0 : w4.cell? ⟨gb117,0,none⟩ = some (.slice A0_0 l0_0.length c0_0) := (blk_cell BK117.out 0).trans rfl;have hfz9_0 := blk_frozen BK117.out 0))
 go_loopg [13] k (fun kq v13 w' => ∃ (x13_1 : Int) (x1200_1 : List (List (S43))) (u1200 : Value),v13 = .int .i64 x13_1 ∧ Aside0 (impl_copyMemory.l0 kq l0_0 (l0_0.length : Int) x13_1 x1200_1 = some r) ∧ Aside0 (kq ≤ k) ∧ Aside0 (Kd.S (sslice 43 k43) 44 w' w00.heap.size (fun _ => True) u1200 x1200_1) ∧ Aside0 (w'.heap[gb117]? = some (.cells #[(.slice A0_0 l0_0.length c0_0)] 24 (0,0))) ∧ Aside0 (w'.heap[gb118]? = some (.cells #[(.slice none 0 0)] 24 (0,0))) ∧ Aside0 (w'.heap[gb119]? = some (.cells #[u1200] 24 (0,0))) ∧ Aside0 (Below w00.heap.size w00 w'))
 case atStart => exact ⟨(0),(([] : List (List (S43)))),(.slice none 0 0),(by first | rfl | (simp;done) | (simp [*];done)),H',⟨Nat.le_refl _⟩,⟨by first | exact Kd.R_nil _ _ _ _ _ | exact Kd.N_nil _ _ _ _ _ | exact Kd.V_nil _ _ _ _ _ | exact Kd.Q_nil _ _ _ _ _ | exact Kd.S_nil _ _ _ _ _⟩,⟨by (with_reducible repeat (first | refine bN_ ?_ _ | refine bD_ ?_ | refine bA_ ?_ _));refine blk_far ?_ NB117_119.out _;(with_reducible repeat (first | refine bN_ ?_ _ | refine bD_ ?_ | refine bA_ ?_ _));exact BK117.out⟩,⟨by (with_reducible repeat (first | refine bN_ ?_ _ | refine bD_ ?_ | refine bA_ ?_ _));refine blk_far ?_ NB118_119.out _;(with_reducible repeat (first | refine bN_ ?_ _ | refine bD_ ?_ | refine bA_ ?_ _));exact BK118.out⟩,⟨by (with_reducible repeat (first | refine bN_ ?_ _ | refine bD_ ?_ | refine bA_ ?_ _));refine blk_put (cs := #[.slice none 0 0]) ?_ 0 _ rfl;(with_reducible repeat (first | refine bN_ ?_ _ | refine bD_ ?_ | refine bA_ ?_ _));exact BK119.out⟩,⟨gW_ HB.out⟩⟩
 case round =>
  clear H'
  try clear p2
  try clear c5
  try clear c6
  try clear c8
  try clear hcz7_0 hfz7_0
  try clear hcz9_0 hfz9_0
  obtain ⟨x13_1,x1200_1,u1200,rfl,HA,HK1,HO_120000,BK117,BK118,BK119,HB⟩ := hrel
  cases gk with
  | zero => exact absurd HA.out (by simp [impl_copyMemory.l0])
  | succ k1 =>
   have H := HA.out
   clear HA
   simp only [impl_copyMemory.l0] at H
   by_cases c10 : x13_1 < (l0_0.length : Int)
   ·rw [if_pos c10] at H
    have c10b0 : decide (x13_1 < (l0_0.length : Int)) = true := decide_eq_true c10
    clear c10
    by_cases c11 : 0 ≤ x13_1
    ·rw [if_pos c11] at H
     have c11b0 : decide (0 ≤ x13_1) = true := decide_eq_true c11
     clear c11
     by_cases c12 : x13_1 < (l0_0.length : Int)
     ·rw [if_pos c12] at H
      have c12b0 : decide (x13_1 < (l0_0.length : Int)) = true := decide_eq_true c12
      clear c12
      obtain ⟨w,hw⟩ : ∃ x,x = wr := ⟨wr,rfl⟩
      have HBo : Aside0 (Below w00.heap.size w00 w) := ⟨by rw [hw];exact HB.out⟩
      have HSo : Aside0 (Kd.S (sslice 43 k43) 44 w w00.heap.size (fun _ => True) u1200 x1200_1) := ⟨by rw [hw];exact HO_120000.out⟩
      have HF : Aside0 (∀ k,w.heap.size ≤ k → True ∧ some k ≠ (u1200 : Value).ownBlock) := ⟨fun k hk => ⟨trivial,fun e => Nat.not_le.2 (Kd.S_lt HSo.out k e.symm) hk⟩⟩
      replace HB : Aside0 (Below w.heap.size w wr) := ⟨by rw [hw];exact Below.refl _ _⟩
      replace HR0_0 := aM_ (Kd.C_below HR0_0.out HBo.out)
      replace HO_120000 := aM_ (S_Rs HO_120000.out)
      clear hw
      obtain ⟨y121,hy121⟩ : ∃ y_ : List (S43),y_ = (([] : List (S43))) := ⟨_,rfl⟩
      replace H : (impl_copyMemory.l1 k1 y121 l0_0 (l0_0.length : Int) x13_1 (rd_L4 l0_0 x13_1) ((rd_L4 l0_0 x13_1).length : Int) 0 x1200_1) = some r := by first | (rw [hy121];with_reducible exact H) | (have H2_ := (Option.bind_some _ _).symm.trans H;rw [hy121];with_reducible exact H2_) | (have H2_ := (Option.bind_some _ _).symm.trans H;with_reducible exact H2_) | with_reducible exact H | (rw [hy121];exact H) | exact H
      have Ny121 := aM_ hy121
      clear hy121
      have H' := aM_ H
      clear H
      have p120 : 0 ≤ (x13_1 : Int) := of_decide_eq_true (by first | (with_reducible assumption) | assumption)
      have q120 : x13_1 < (l0_0.length : Int) := of_decide_eq_true (by first | (with_reducible assumption) | assumption)
      obtain ⟨ad120,A120_0,c120_0,e120,hx120_0,hl120_0,hi120_0⟩ := at_L4 HR0_0.out x13_1 p120 q120
      cases e120
      replace hx120_0 := cB_ HB.out hx120_0
      have HR120_0 := aM_ hi120_0
      have HC120_0 := aM_ hl120_0
      clear hi120_0 hl120_0
      replace p120 := eq_true p120
      replace q120 := eq_true q120
      go_wp2_with (first | ((with_reducible refine gate_dst (N := 17) rfl ?_);refine Kd.S_lit k43 _ 43 ?hg (N := 17) ?hd (xs := ([] : List (S43))) (inner := []) (ok := fun _ => True) (okp := fun _ => True) ?hr ?hp (fun _ hk => hk) trivial (Below.refl _ _) (Nat.le_refl _) (by simp) ?_;(case hd => rfl);(case hg => rfl);(case hr => first | (go_simp;done) | (go_simp;rfl));(case hp => exact (Reps.none _ _));intro v122 w13 ho14 hb hg_ hnew_;clear hg_ hnew_;(first | rw [← Ny121.out] at ho14 | (simp only [Int.reduceToNat] at ho14;rw [← Ny121.out] at ho14));have n0 := aM_ (Kd.R_elder' (by (with_reducible repeat (first | apply rA_ | apply rN_ | apply rD_));exact HO_120000.out) (Kd.S_base ho14) hb);have n1 := aM_ (Kd.S_lower ho14 (below_size (gB_ HB.out)));have n2 := aM_ (nB_ BK117.out hb);have n3 := aM_ (nB_ BK118.out hb);have n4 := aM_ (nB_ BK119.out hb);have n5 := aM_ (sT_ HB.out hb);clear HO_120000;clear BK117;clear BK118;clear BK119;clear HB;have HO_120000 := n0;have HO123 := n1;have BK117 := n2;have BK118 := n3;have BK119 := n4;have HB := n5;clear n0 n1 n2 n3 n4 n5;clear hb ho14))
      go_loopg [6,20] k1 (fun kq v6 v20 w' => ∃ (x6_2 : List (S43)) (x20_2 : Int),v20 = .int .i64 x20_2 ∧ Aside0 (impl_copyMemory.l1 kq x6_2 l0_0 (l0_0.length : Int) x13_1 (rd_L4 l0_0 x13_1) ((rd_L4 l0_0 x13_1).length : Int) x20_2 x1200_1 = some r) ∧ Aside0 (kq ≤ k1) ∧ Aside0 (Kd.S k43 43 w' w.heap.size (fun _ => True) v6 x6_2) ∧ Aside0 (Kd.R (Kd.slice 43 k43) 44 w' w00.heap.size (fun k_ => some k_ ≠ (v6 : Value).ownBlock) u1200 x1200_1) ∧ Aside0 (w'.heap[gb117]? = some (.cells #[(.slice (some ad120) l0_0.length c0_0)] 24 (0,0))) ∧ Aside0 (w'.heap[gb118]? = some (.cells #[(.slice none 0 0)] 24 (0,0))) ∧ Aside0 (w'.heap[gb119]? = some (.cells #[u1200] 24 (0,0))) ∧ Aside0 (Below w.heap.size w w'))
      case atStart => exact ⟨(y121),(0),(by first | rfl | (simp;done) | (simp [*];done)),H',⟨Nat.le_refl _⟩,⟨by (with_reducible repeat (first | apply Kd.S_alloc | apply Kd.S_drewN | apply Kd.S_drew));exact HO123.out⟩,⟨by (with_reducible repeat (first | apply rA_ | apply rN_ | apply rD_));exact Kd.R_mono HO_120000.out (fun _ hk => hk.2)⟩,⟨rW_ BK117.out⟩,⟨rW_ BK118.out⟩,⟨rW_ BK119.out⟩,⟨gW_ HB.out⟩⟩
      case round =>
       clear H'
       try clear c1
       try clear p1
       try clear q1
       try clear hx1
       try clear p2
       try clear c5
       try clear c6
       try clear c8
       try clear c10
       try clear c10b0
       try clear c11
       try clear c11b0
       try clear c12
       try clear c12b0
       try clear p12
       try clear q12
       try clear hx12
       try clear hcz7_0 hfz7_0
       try clear hcz9_0 hfz9_0
       try clear hx120_0
       try clear p120
       try clear p2
       try clear q120
       obtain ⟨x6_2,x20_2,rfl,HA,HK2,HO_6,HO_120000,BK117,BK118,BK119,HB⟩ := hrel
       cases gk with
       | zero => exact absurd HA.out (by simp [impl_copyMemory.l1])
       | succ k2 =>
        have H := HA.out
        clear HA
        simp only [impl_copyMemory.l1] at H
        by_cases c15 : x20_2 < ((rd_L4 l0_0 x13_1).length : Int)
        ·rw [if_pos c15] at H
         have c15b0 : decide (x20_2 < ((rd_L4 l0_0 x13_1).length : Int)) = true := decide_eq_true c15
         clear c15
         by_cases c16 : 0 ≤ x20_2
         ·rw [if_pos c16] at H
          have c16b0 : decide (0 ≤ x20_2) = true := decide_eq_true c16
          clear c16
          by_cases c17 : x20_2 < ((rd_L4 l0_0 x13_1).length : Int)
          ·rw [if_pos c17] at H
           have c17b0 : decide (x20_2 < ((rd_L4 l0_0 x13_1).length : Int)) = true := decide_eq_true c17
           clear c17
           replace H := Option.bind_eq_some_iff.mp H
           obtain ⟨t126,A180,H⟩ := H
           replace H : (if x6_2.length < 4398046511104 then (impl_copyMemory.l1 k2 (x6_2 ++ [(⟨(rd_T43 (rd_L4 l0_0 x13_1) x20_2).f0,t126⟩ : S43)]) l0_0 (l0_0.length : Int) x13_1 (rd_L4 l0_0 x13_1) ((rd_L4 l0_0 x13_1).length : Int) (wrap64 (x20_2 + 1)) x1200_1) else (none)) = some r := H
           have A18 := aM_ A180
           clear A180
           by_cases c19 : x6_2.length < 4398046511104
           ·rw [if_pos c19] at H
            have LMc19 := aM_ c19
            clear c19
            obtain ⟨y129,hy129⟩ : ∃ y_ : List (S43),y_ = (x6_2 ++ [(⟨(rd_T43 (rd_L4 l0_0 x13_1) x20_2).f0,t126⟩ : S43)]) := ⟨_,rfl⟩
            replace H : (impl_copyMemory.l1 k2 y129 l0_0 (l0_0.length : Int) x13_1 (rd_L4 l0_0 x13_1) ((rd_L4 l0_0 x13_1).length : Int) (wrap64 (x20_2 + 1)) x1200_1) = some r := by first | (rw [hy129];with_reducible exact H) | (have H2_ := (Option.bind_some _ _).symm.trans H;rw [hy129];with_reducible exact H2_) | (have H2_ := (Option.bind_some _ _).symm.trans H;with_reducible exact H2_) | with_reducible exact H | (rw [hy129];exact H) | exact H
            have Ny129 := aM_ hy129
            clear hy129
            have H' := aM_ H
            clear H
            have p124 : 0 ≤ (x20_2 : Int) := of_decide_eq_true (by first | (with_reducible assumption) | assumption)
            have q124 : x20_2 < ((rd_L4 l0_0 x13_1).length : Int) := of_decide_eq_true (by first | (with_reducible assumption) | assumption)
            obtain ⟨ad124,A124_1,c124_1,e124,hx124_0,hx124_1,hl124_1,hi124_1⟩ := at_T43 HR120_0.out x20_2 p124 q124
            cases e124
            replace hx124_0 := cB_ HB.out hx124_0
            replace hx124_1 := cB_ HB.out hx124_1
            have HR124_1 := aM_ hi124_1
            have HC124_1 := aM_ hl124_1
            clear hi124_1 hl124_1
            replace p124 := eq_true p124
            replace q124 := eq_true q124
            try go_wp2_with (first | ((with_reducible refine gate_dst (N := 8) rfl ?_);refine bX_ 8 (cs := #[.int .i64 0,.slice none 0 0]) (t := 43) ?_;intro gb125 hg w20 hbox hb;have n0 := aM_ (Kd.S_below (Kd.S_elderB (by (with_reducible repeat (first | apply Kd.S_alloc | apply Kd.S_drewN | apply Kd.S_drew));exact HO_6.out) gb125 (Nat.le_of_eq hg.symm)) hb);have n1 := aM_ (Kd.R_below (Kd.R_elderB (by (with_reducible repeat (first | apply rA_ | apply rN_ | apply rD_));exact HO_120000.out) gb125 (Nat.le_of_eq hg.symm)) hb);have n2 := aM_ (nB_ BK117.out hb);have n3 := aM_ (nB_ BK118.out hb);have n4 := aM_ (nB_ BK119.out hb);have n5 := aM_ (sT_ HB.out hb);have n6 := aM_ (hbox);have n7 := aM_ (sZ_ hg HB.out);have n8 := aM_ (sZ_ hg HB.out);have n9 := aM_ (nL_ hg BK117.out);have n10 := aM_ (nG_ hg BK117.out);have n11 := aM_ (nL_ hg BK118.out);have n12 := aM_ (nG_ hg BK118.out);have n13 := aM_ (nL_ hg BK119.out);have n14 := aM_ (nG_ hg BK119.out);clear HO_6;clear HO_120000;clear BK117;clear BK118;clear BK119;clear HB;have HO_6 := n0;have HO_120000 := n1;have BK117 := n2;have BK118 := n3;have BK119 := n4;have HB := n5;have BK125 := n6;have GW125 := n7;have GE125 := n8;have NB117_125 := n9;have NB125_117 := n10;have NB118_125 := n11;have NB125_118 := n12;have NB119_125 := n13;have NB125_119 := n14;clear n0 n1 n2 n3 n4 n5 n6 n7 n8 n9 n10 n11 n12 n13 n14;clear hb hbox hg;have hnb21 := NB125_117.out;have hnc21 := NB117_125.out;have hnb22 := NB125_118.out;have hnc22 := NB118_125.out;have hnb23 := NB125_119.out;have hnc23 := NB119_125.out;obtain ⟨hcz24_0,hcz24_1,hfz24_0,hfz24_1⟩ := bR2_ BK125.out))
            have n0 : Aside0 (Kd.S k43 43 ((w20.setCell ⟨gb125,0,none⟩ (.int .i64 ((rd_T43 (rd_L4 l0_0 x13_1) x20_2).f0))).setCell ⟨gb125,1,none⟩ (.slice A124_1 ((rd_T43 (rd_L4 l0_0 x13_1) x20_2).f1).length c124_1)) w.heap.size (fun k_ => k_ ≠ gb125) u6 x6_2) := ⟨by (with_reducible repeat (first | apply Kd.S_alloc | apply Kd.S_drewN | apply Kd.S_drew));exact Kd.S_mono (Kd.S_far (p := ⟨gb125,1,none⟩) (Kd.S_far (p := ⟨gb125,0,none⟩) (Kd.S_mono HO_6.out (fun k_ hk => (⟨hk,hk.2⟩ : _ ∧ k_ ≠ gb125))) (fun _ hk => hk.2) (.int .i64 ((rd_T43 (rd_L4 l0_0 x13_1) x20_2).f0))) (fun _ hk => hk.2) (.slice A124_1 ((rd_T43 (rd_L4 l0_0 x13_1) x20_2).f1).length c124_1)) (fun _ hk => hk.1.2)⟩
            have n1 : Aside0 (Kd.R (Kd.slice 43 k43) 44 ((w20.setCell ⟨gb125,0,none⟩ (.int .i64 ((rd_T43 (rd_L4 l0_0 x13_1) x20_2).f0))).setCell ⟨gb125,1,none⟩ (.slice A124_1 ((rd_T43 (rd_L4 l0_0 x13_1) x20_2).f1).length c124_1)) w00.heap.size (fun k_ => some k_ ≠ (u6 : Value).ownBlock ∧ k_ ≠ gb125) u1200 x1200_1) := ⟨by (with_reducible repeat (first | apply rA_ | apply rN_ | apply rD_));exact Kd.R_mono (Kd.R_far (p := ⟨gb125,1,none⟩) (Kd.R_far (p := ⟨gb125,0,none⟩) (Kd.R_mono HO_120000.out (fun k_ hk => (⟨hk,hk.2⟩ : _ ∧ k_ ≠ gb125))) (fun _ hk => hk.2) (.int .i64 ((rd_T43 (rd_L4 l0_0 x13_1) x20_2).f0))) (fun _ hk => hk.2) (.slice A124_1 ((rd_T43 (rd_L4 l0_0 x13_1) x20_2).f1).length c124_1)) (fun _ hk => ⟨hk.1.1,hk.1.2⟩)⟩
            have n2 : Aside0 (((w20.setCell ⟨gb125,0,none⟩ (.int .i64 ((rd_T43 (rd_L4 l0_0 x13_1) x20_2).f0))).setCell ⟨gb125,1,none⟩ (.slice A124_1 ((rd_T43 (rd_L4 l0_0 x13_1) x20_2).f1).length c124_1)).heap[gb117]? = some (.cells #[.slice (some ad120) l0_0.length c0_0] 24 (0,0))) := ⟨by (with_reducible repeat (first | refine bN_ ?_ _ | refine bD_ ?_ | refine bA_ ?_ _));refine blk_far ?_ NB117_125.out _;(with_reducible repeat (first | refine bN_ ?_ _ | refine bD_ ?_ | refine bA_ ?_ _));refine blk_far ?_ NB117_125.out _;(with_reducible repeat (first | refine bN_ ?_ _ | refine bD_ ?_ | refine bA_ ?_ _));exact BK117.out⟩
            have n3 : Aside0 (((w20.setCell ⟨gb125,0,none⟩ (.int .i64 ((rd_T43 (rd_L4 l0_0 x13_1) x20_2).f0))).setCell ⟨gb125,1,none⟩ (.slice A124_1 ((rd_T43 (rd_L4 l0_0 x13_1) x20_2).f1).length c124_1)).heap[gb118]? = some (.cells #[.slice none 0 0] 24 (0,0))) := ⟨by (with_reducible repeat (first | refine bN_ ?_ _ | refine bD_ ?_ | refine bA_ ?_ _));refine blk_far ?_ NB118_125.out _;(with_reducible repeat (first | refine bN_ ?_ _ | refine bD_ ?_ | refine bA_ ?_ _));refine blk_far ?_ NB118_125.out _;(with_reducible repeat (first | refine bN_ ?_ _ | refine bD_ ?_ | refine bA_ ?_ _));exact BK118.out⟩
            have n4 : Aside0 (((w20.setCell ⟨gb125,0,none⟩ (.int .i64 ((rd_T43 (rd_L4 l0_0 x13_1) x20_2).f0))).setCell ⟨gb125,1,none⟩ (.slice A124_1 ((rd_T43 (rd_L4 l0_0 x13_1) x20_2).f1).length c124_1)).heap[gb119]? = some (.cells #[u1200] 24 (0,0))) := ⟨by (with_reducible repeat (first | refine bN_ ?_ _ | refine bD_ ?_ | refine bA_ ?_ _));refine blk_far ?_ NB119_125.out _;(with_reducible repeat (first | refine bN_ ?_ _ | refine bD_ ?_ | refine bA_ ?_ _));refine blk_far ?_ NB119_125.out _;(with_reducible repeat (first | refine bN_ ?_ _ | refine bD_ ?_ | refine bA_ ?_ _));exact BK119.out⟩
            have n5 : Aside0 (((w20.setCell ⟨gb125,0,none⟩ (.int .i64 ((rd_T43 (rd_L4 l0_0 x13_1) x20_2).f0))).setCell ⟨gb125,1,none⟩ (.slice A124_1 ((rd_T43 (rd_L4 l0_0 x13_1) x20_2).f1).length c124_1)).heap[gb125]? = some (.cells #[.int .i64 ((rd_T43 (rd_L4 l0_0 x13_1) x20_2).f0),.slice A124_1 ((rd_T43 (rd_L4 l0_0 x13_1) x20_2).f1).length c124_1] 43 (0,0))) := ⟨by (with_reducible repeat (first | refine bN_ ?_ _ | refine bD_ ?_ | refine bA_ ?_ _));refine blk_put (cs := #[.int .i64 ((rd_T43 (rd_L4 l0_0 x13_1) x20_2).f0),.slice none 0 0]) ?_ 1 _ rfl;refine blk_put (cs := #[.int .i64 0,.slice none 0 0]) ?_ 0 _ rfl;(with_reducible repeat (first | refine bN_ ?_ _ | refine bD_ ?_ | refine bA_ ?_ _));exact BK125.out⟩
            have n6 : Aside0 (Below w.heap.size w ((w20.setCell ⟨gb125,0,none⟩ (.int .i64 ((rd_T43 (rd_L4 l0_0 x13_1) x20_2).f0))).setCell ⟨gb125,1,none⟩ (.slice A124_1 ((rd_T43 (rd_L4 l0_0 x13_1) x20_2).f1).length c124_1))) := ⟨gW_ HB.out⟩
            (try clear HO_6)
            (try clear HO_120000)
            (try clear BK117)
            (try clear BK118)
            (try clear BK119)
            (try clear BK125)
            (try clear HB)
            generalize ((w20.setCell ⟨gb125,0,none⟩ (.int .i64 ((rd_T43 (rd_L4 l0_0 x13_1) x20_2).f0))).setCell ⟨gb125,1,none⟩ (.slice A124_1 ((rd_T43 (rd_L4 l0_0 x13_1) x20_2).f1).length c124_1)) = w25 at n0 n1 n2 n3 n4 n5 n6 ⊢
            have HO_6 := n0
            have HO_120000 := n1
            have BK117 := n2
            have BK118 := n3
            have BK119 := n4
            have BK125 := n5
            have HB := n6
            clear n0 n1 n2 n3 n4 n5 n6
            have n0 := aM_ (Kd.S_drew HO_6.out)
            have n1 := aM_ (Kd.R_drew HO_120000.out)
            have n2 := aM_ (blk_drew BK117.out)
            have n3 := aM_ (blk_drew BK118.out)
            have n4 := aM_ (blk_drew BK119.out)
            have n5 := aM_ (blk_drew BK125.out)
            have n6 := aM_ (below_drew1 HB.out)
            clear HO_6
            clear HO_120000
            clear BK117
            clear BK118
            clear BK119
            clear BK125
            clear HB
            have HO_6 := n0
            have HO_120000 := n1
            have BK117 := n2
            have BK118 := n3
            have BK119 := n4
            have BK125 := n5
            have HB := n6
            clear n0 n1 n2 n3 n4 n5 n6
            refine start_ (n := 10) (S := fun w' => w'.cell? ⟨gb125,0,none⟩ = some (.int .i64 ((rd_T43 (rd_L4 l0_0 x13_1) x20_2).f0)) ∧ w'.cell? ⟨gb125,1,none⟩ = some (.slice A124_1 ((rd_T43 (rd_L4 l0_0 x13_1) x20_2).f1).length c124_1)) (ds := []) (mk_ 10 0) (by kernel_rfl) rfl rfl (bC2_ BK125.out) (fun hHeld => ?_);refine with_tabW impl_copyMemory.tab9 impl_copyMemory.bits9 (fun HT_ HW_ => ?_)
            generalize w25.drew = w26 at HO_6 HO_120000 BK117 BK118 BK119 BK125 HB hHeld ⊢
            refine pU_ 0 (some 24) (mk_ 10 1) ?_
            refine pU_ 1 (some 25) (mk_ 10 3) ?_
            refine pU_ 3 (some 27) (mk_ 10 11) ?_
            refine tK2_ 2 (some 26) (mk_ 10 15) ?_
            refine tK2_ 4 (some 28) (mk_ 10 31) ?_
            refine oN_ 5 (some 29) (mk_ 10 63) (fun K hK => ?_)
            refine gO_ Try.func58 #[.slice A124_1 ((rd_T43 (rd_L4 l0_0 x13_1) x20_2).f1).length c124_1] ?_
            with_reducible refine (impl_copyInts.calls _ _ ((rd_T43 (rd_L4 l0_0 x13_1) x20_2).f1) t126 _ ?side1 ?side2 A18.out).mono ?_
            (case side1 => exact cS_ (Kd.C_below HR124_1.out HB.out))
            (case side2 => exact HC124_1.out)
            rintro e w27 ⟨v127,rfl,ho0,hb⟩
            refine ⟨_,rfl,?_⟩
            have n0 := aM_ (Kd.S_elder' (by (with_reducible repeat (first | apply Kd.S_alloc | apply Kd.S_drewN | apply Kd.S_drew));exact HO_6.out) (Kd.R_base ho0) hb)
            have n1 := aM_ (Kd.R_elder' (by (with_reducible repeat (first | apply rA_ | apply rN_ | apply rD_));exact HO_120000.out) (Kd.R_base ho0) hb)
            have n2 := aM_ (Kd.R_lower ho0 (below_size (gB_ HB.out)))
            have n3 := aM_ (nB_ BK117.out hb)
            have n4 := aM_ (nB_ BK118.out hb)
            have n5 := aM_ (nB_ BK119.out hb)
            have n6 := aM_ (nB_ BK125.out hb)
            have n7 := aM_ (sT_ HB.out hb)
            clear HO_6
            clear HO_120000
            clear BK117
            clear BK118
            clear BK119
            clear BK125
            clear HB
            have HO_6 := n0
            have HO_120000 := n1
            have HO128 := n2
            have BK117 := n3
            have BK118 := n4
            have BK119 := n5
            have BK125 := n6
            have HB := n7
            clear n0 n1 n2 n3 n4 n5 n6 n7
            (try clear hb)
            (try clear hb2)
            (try clear hk)
            (try clear hi)
            (try clear ho0)
            obtain ⟨Ao28,co28,eo28⟩ := Kd.R_slice HO128.out
            (first | subst eo28 | (injection eo28 with f1_ f2_ f3_;have f4_ := f1_.symm;have f5_ := f3_.symm;clear f1_ f2_ f3_;subst f4_;subst f5_))
            refine hK.out _ _ (bC2_ BK125.out) (fun hHeld => ?_)
            clear hK K
            refine norm_ (a' := ?_) ?_ ?_
            rotate_left
            ·show Act.put _ (some 29) _ = _
             simp only [pt_,pn_,sI_,s0_,s1_,i64_w,i32_w]
             rfl
            refine pU_ 6 (some 30) (mk_ 10 127) ?_
            refine oN_ 7 (some 31) (mk_ 10 255) (fun K hK => ?_)
            refine value_ (w1 := ?_) (v := ?_) (by rfl) rfl ?_ ?_
            rotate_left 2
            ·go_simp
             constructor
             ·rfl
             ·rfl
            refine hK.out _ _ ⟨(blk_cell (blk_alloc BK125.out _) 0).trans rfl,(blk_cell (blk_alloc BK125.out _) 1).trans rfl⟩ (fun hHeld => ?_)
            clear hK K
            refine norm_ (a' := ?_) ?_ ?_
            rotate_left
            ·show Act.put _ (some 31) _ = _
             simp only [pt_,pn_,sI_,s0_,s1_,i64_w,i32_w]
             rfl
            refine oN_ 8 (some 32) (mk_ 10 511) (fun K hK => ?_)
            refine Kd.S_append_step k43 (w0 := w) w.heap.size (by rfl) (.tmp 24) (.tmp 31) 44 43 (.agg #[(.int .i64 0),(.slice none 0 0)]) 32 rfl Try.underlying44 info43 rfl (by decide) (by omega) u6 x6_2 (⟨(rd_T43 (rd_L4 l0_0 x13_1) x20_2).f0,t126⟩ : S43) [.int .i64 ((rd_T43 (rd_L4 l0_0 x13_1) x20_2).f0),.slice Ao28 t126.length co28] (fun k_ => k_ ≠ gb125) (fun k_ => some k_ = (.slice Ao28 t126.length co28 : Value).ownBlock) rfl rfl ?aP (fun k_ hk_ => ((Kd.R_mono (ok' := fun k_ => ((fun k_ => k_ ≠ gb125)) k_ ∧ some k_ ≠ (u6 : Value).ownBlock) (Kd.R_types (Kd.R_apart' (HO128.out) (Kd.S_typed HO_6.out) (by decide)) BK125.out (by decide)) (fun k_ hk => ⟨hk.2,hk.1.2⟩))).1 k_ hk_.symm) ?aF ?aO ?aB ?aS ?aL ?_
            (case aP => exact k43_mkM _ _ _ (⟨(rd_T43 (rd_L4 l0_0 x13_1) x20_2).f0,t126⟩ : S43) (Kd.R_mono (Kd.R_tight rfl (Kd.R_mono (ok' := fun k_ => ((fun k_ => k_ ≠ gb125)) k_ ∧ some k_ ≠ (u6 : Value).ownBlock) (Kd.R_types (Kd.R_apart' (HO128.out) (Kd.S_typed HO_6.out) (by decide)) BK125.out (by decide)) (fun k_ hk => ⟨hk.2,hk.1.2⟩))) (fun _ h_ => h_)))
            (case aB => exact (gB_ HB.out))
            (case aF => exact (fun k_ hk => Kd.freshB (g := gb125) (o := .cells #[.int .i64 ((rd_T43 (rd_L4 l0_0 x13_1) x20_2).f0),.slice A124_1 ((rd_T43 (rd_L4 l0_0 x13_1) x20_2).f1).length c124_1] 43 (0,0)) (by (with_reducible repeat (first | refine bN_ ?_ _ | refine bD_ ?_ | refine bA_ ?_ _));exact BK125.out) k_ hk))
            (case aO => exact (by (with_reducible repeat (first | apply Kd.S_alloc | apply Kd.S_drewN | apply Kd.S_drew));exact Kd.S_mono HO_6.out (fun k_ hk => ⟨hk.1,fun e_ => hk.2 e_⟩)))
            (case aS => exact (below_size (gB_ HB.out)))
            (case aL => have := LMc19.out;omega)
            intro v130 w29 ho hb hg hat
            rw [← Ny129.out] at ho
            have n0 := aM_ (Kd.R_after (ok := (fun k_ => some k_ ≠ (.slice Ao28 t126.length co28 : Value).ownBlock ∧ k_ ≠ gb125)) (by (with_reducible repeat (first | apply rA_ | apply rN_ | apply rD_));exact Kd.R_mono HO_120000.out (fun _ hk => ⟨⟨hk.2,hk.1.2⟩,hk.1.1⟩)) hg hat)
            have n1 := aM_ (blk_grown (g := gb117) (o := .cells #[.slice (some ad120) l0_0.length c0_0] 24 (0,0)) (by (with_reducible repeat (first | refine bN_ ?_ _ | refine bD_ ?_ | refine bA_ ?_ _));exact BK117.out) hg (Kd.S_ne HO_6.out BK117.out (by decide)))
            have n2 := aM_ (blk_grown (g := gb118) (o := .cells #[.slice none 0 0] 24 (0,0)) (by (with_reducible repeat (first | refine bN_ ?_ _ | refine bD_ ?_ | refine bA_ ?_ _));exact BK118.out) hg (Kd.S_ne HO_6.out BK118.out (by decide)))
            have n3 := aM_ (blk_grown (g := gb119) (o := .cells #[u1200] 24 (0,0)) (by (with_reducible repeat (first | refine bN_ ?_ _ | refine bD_ ?_ | refine bA_ ?_ _));exact BK119.out) hg (Kd.S_ne HO_6.out BK119.out (by decide)))
            have n4 := aM_ (blk_grown (g := gb125) (o := .cells #[.int .i64 ((rd_T43 (rd_L4 l0_0 x13_1) x20_2).f0),.slice A124_1 ((rd_T43 (rd_L4 l0_0 x13_1) x20_2).f1).length c124_1] 43 (0,0)) (by (with_reducible repeat (first | refine bN_ ?_ _ | refine bD_ ?_ | refine bA_ ?_ _));exact BK125.out) hg (Kd.S_away HO_6.out (fun _ hk => hk.1)))
            have n5 := aM_ (hb)
            have n6 := aM_ (ho)
            clear HO_120000
            clear BK117
            clear BK118
            clear BK119
            clear BK125
            clear HB
            clear HO_6
            clear HO128
            have HO_120000 := n0
            have BK117 := n1
            have BK118 := n2
            have BK119 := n3
            have BK125 := n4
            have HB := n5
            have HO131 := n6
            clear n0 n1 n2 n3 n4 n5 n6
            clear ho hb hg hat
            refine hK.out _ _ (bC2_ BK125.out) (fun hHeld => ?_)
            clear hK K
            refine norm_ (a' := ?_) ?_ ?_
            rotate_left
            ·show Act.put _ (some 32) _ = _
             simp only [pt_,pn_,sI_,s0_,s1_,i64_w,i32_w]
             rfl
            refine pU_ 9 (some 6) (mk_ 10 1023) ?_
            refine done_ (done_of HT_.out (by kernel_rfl)) ?_
            try go_wp2
            go_roundg k2
            case measure => have := HK1.out;have := HK2.out;omega
            case rel => exact ⟨(y129),(wrap64 (x20_2 + 1)),(by first | rfl | (simp;done) | (simp [*];done)),H',⟨by have := HK1.out;have := HK2.out;omega⟩,⟨by (with_reducible repeat (first | apply Kd.S_alloc | apply Kd.S_drewN | apply Kd.S_drew));exact Kd.S_mono HO131.out (fun _ hk => trivial)⟩,⟨by (with_reducible repeat (first | apply rA_ | apply rN_ | apply rD_));exact Kd.R_mono HO_120000.out (fun _ hk => hk.2)⟩,⟨rW_ BK117.out⟩,⟨rW_ BK118.out⟩,⟨rW_ BK119.out⟩,⟨gW_ HB.out⟩⟩
           ·rw [if_neg c19] at H
            exact absurd H (by simp)
          ·rw [if_neg c17] at H
           exact absurd H (by simp)
         ·rw [if_neg c16] at H
          exact absurd H (by simp)
        ·rw [if_neg c15] at H
         have c15b0 : decide (x20_2 < ((rd_L4 l0_0 x13_1).length : Int)) = false := decide_eq_false c15
         clear c15
         by_cases c30 : x1200_1.length < 5864062014805
         ·rw [if_pos c30] at H
          have LMc30 := aM_ c30
          clear c30
          obtain ⟨y132,hy132⟩ : ∃ y_ : List (List (S43)),y_ = (x1200_1 ++ [x6_2]) := ⟨_,rfl⟩
          replace H : (impl_copyMemory.l0 k2 l0_0 (l0_0.length : Int) (wrap64 (x13_1 + 1)) y132) = some r := by first | (rw [hy132];with_reducible exact H) | (have H2_ := (Option.bind_some _ _).symm.trans H;rw [hy132];with_reducible exact H2_) | (have H2_ := (Option.bind_some _ _).symm.trans H;with_reducible exact H2_) | with_reducible exact H | (rw [hy132];exact H) | exact H
          have Ny132 := aM_ hy132
          clear hy132
          have H' := aM_ H
          clear H
          have hnb31 := NB119_117.out
          have hnc31 := NB117_119.out
          have hnb32 := NB119_118.out
          have hnc32 := NB118_119.out
          have hcz33_0 : wr.cell? ⟨gb119,0,none⟩ = some (u1200) := (blk_cell BK119.out 0).trans rfl
          have hfz33_0 := blk_frozen BK119.out 0
          obtain ⟨Ao35,co35,eo35⟩ := Kd.S_slice HO_6.out
          subst eo35
          go_wp2_with (first | ((with_reducible refine gate_builtin (b := .append) (xs := #[.tmp 35,.tmp 37]) rfl ?_);at_builtin;refine Kd.S_append (sslice 43 k43) (w0 := w00) w00.heap.size rfl (.tmp 35) (.tmp 37) 22 44 (.slice none 0 0) 24 rfl Try.underlying22 info44 rfl (by decide) (by omega) u1200 x1200_1 x6_2 [.slice Ao35 x6_2.length co35] (fun _ => True) (fun k_ => w.heap.size ≤ k_) rfl rfl ?aP HF.out ?aF ?aO ?aB ?aS ?aL ?_;(case aP => exact ⟨_,rfl,Kd.S_lower (Kd.S_mono (Kd.S_bound HO_6.out) (fun _ hk => hk.2.1)) (below_size HBo.out)⟩);(case aB => exact (below_step HBo.out HB.out));(case aF => exact (fun _ _ => trivial));(case aO => exact (Kd.S_mono (Kd.S_old HSo.out HB.out) (fun _ hk => ⟨trivial,Nat.not_le.2 hk.2⟩)));(case aS => exact (below_size (below_step HBo.out HB.out)));(case aL => have := LMc30.out;omega);intro v133 w34 ho hb hg hat;rw [← Ny132.out] at ho;have n0 := aM_ (blk_grown (g := gb117) (o := .cells #[.slice (some ad120) l0_0.length c0_0] 24 (0,0)) (by (with_reducible repeat (first | refine bN_ ?_ _ | refine bD_ ?_ | refine bA_ ?_ _));exact BK117.out) hg (Kd.R_ne HO_120000.out BK117.out (by decide)));have n1 := aM_ (blk_grown (g := gb118) (o := .cells #[.slice none 0 0] 24 (0,0)) (by (with_reducible repeat (first | refine bN_ ?_ _ | refine bD_ ?_ | refine bA_ ?_ _));exact BK118.out) hg (Kd.R_ne HO_120000.out BK118.out (by decide)));have n2 := aM_ (blk_grown (g := gb119) (o := .cells #[u1200] 24 (0,0)) (by (with_reducible repeat (first | refine bN_ ?_ _ | refine bD_ ?_ | refine bA_ ?_ _));exact BK119.out) hg (Kd.R_ne HO_120000.out BK119.out (by decide)));have n3 := aM_ (hb);have n4 := aM_ (ho);clear BK117;clear BK118;clear BK119;clear HB;clear HO_120000;clear HO_6;have BK117 := n0;have BK118 := n1;have BK119 := n2;have HB := n3;have HO134 := n4;clear n0 n1 n2 n3 n4;clear ho hb hg hat;obtain ⟨Ao36,co36,eo36⟩ := Kd.S_slice HO134.out;subst eo36;have hcz37_0 : w34.cell? ⟨gb119,0,none⟩ = some (u1200) := (blk_cell BK119.out 0).trans rfl;have hfz37_0 := blk_frozen BK119.out 0))
          go_roundg k2
          case measure => have := HK1.out;have := HK2.out;omega
          case rel => exact ⟨(wrap64 (x13_1 + 1)),(y132),(.slice Ao36 y132.length co36),(by first | rfl | (simp;done) | (simp [*];done)),H',⟨by have := HK1.out;have := HK2.out;omega⟩,⟨by (with_reducible repeat (first | apply Kd.S_alloc | apply Kd.S_drewN | apply Kd.S_drew));exact Kd.S_mono (Kd.S_far (p := ⟨gb119,0,none⟩) (Kd.S_types HO134.out BK119.out (by decide)) (fun _ hk => hk.2) (.slice Ao36 y132.length co36)) (fun _ hk => trivial)⟩,⟨by (with_reducible repeat (first | refine bN_ ?_ _ | refine bD_ ?_ | refine bA_ ?_ _));refine blk_far ?_ NB117_119.out _;(with_reducible repeat (first | refine bN_ ?_ _ | refine bD_ ?_ | refine bA_ ?_ _));exact BK117.out⟩,⟨by (with_reducible repeat (first | refine bN_ ?_ _ | refine bD_ ?_ | refine bA_ ?_ _));refine blk_far ?_ NB118_119.out _;(with_reducible repeat (first | refine bN_ ?_ _ | refine bD_ ?_ | refine bA_ ?_ _));exact BK118.out⟩,⟨by (with_reducible repeat (first | refine bN_ ?_ _ | refine bD_ ?_ | refine bA_ ?_ _));refine blk_put (cs := #[u1200]) ?_ 0 _ rfl;(with_reducible repeat (first | refine bN_ ?_ _ | refine bD_ ?_ | refine bA_ ?_ _));exact BK119.out⟩,⟨gW_ HB.out⟩⟩
         ·rw [if_neg c30] at H
          exact absurd H (by simp)
     ·rw [if_neg c12] at H
      exact absurd H (by simp)
    ·rw [if_neg c11] at H
     exact absurd H (by simp)
   ·rw [if_neg c10] at H
    have c10b0 : decide (x13_1 < (l0_0.length : Int)) = false := decide_eq_false c10
    clear c10
    obtain rfl := Option.some.inj H
    have hnb38 := NB119_117.out
    have hnc38 := NB117_119.out
    have hnb39 := NB119_118.out
    have hnc39 := NB118_119.out
    have hcz40_0 : wr.cell? ⟨gb119,0,none⟩ = some (u1200) := (blk_cell BK119.out 0).trans rfl
    have hfz40_0 := blk_frozen BK119.out 0
    obtain ⟨Ao41,co41,eo41⟩ := Kd.S_slice HO_120000.out
    subst eo41
    have hnb42 := NB118_117.out
    have hnc42 := NB117_118.out
    have hcz43_0 : wr.cell? ⟨gb118,0,none⟩ = some (.slice none 0 0) := (blk_cell BK118.out 0).trans rfl
    have hfz43_0 := blk_frozen BK118.out 0
    go_wp2
    refine bodyPost_ret (results_cell_row rfl _ _ gb118 24 #[.slice Ao41 x1200_1.length co41] (0,0) _ rfl (by (with_reducible repeat (first | refine bN_ ?_ _ | refine bD_ ?_ | refine bA_ ?_ _));refine blk_put (cs := #[.slice none 0 0]) ?_ 0 _ rfl;exact rW_ BK118.out) Try.underlying24 rfl (by kernel_rfl)) rfl ?_
    exact ⟨_,fR_,by (with_reducible repeat (first | apply Kd.S_alloc | apply Kd.S_drewN | apply Kd.S_drew));exact Kd.S_mono (Kd.S_far (p := ⟨gb118,0,none⟩) (Kd.S_types HO_120000.out BK118.out (by decide)) (fun _ hk => hk.2) (.slice Ao41 x1200_1.length co41)) (fun _ hk => trivial),gB_ HB.out⟩
def impl_isCell.f (a0 : Int) : Option (Bool) := (impl_within.f a0 0 23).bind fun t135 => (some t135)
set_option maxHeartbeats 8000000 in
set_option maxRecDepth 100000 in
theorem impl_isCell.calls (a0 : Int) (r : Bool) (w : World) (h : impl_isCell.f a0 = some r) :
  Calls Try.prog 56 #[.int .i64 a0] w fun e w' => e = .returned (.bool r) ∧ Drawn0 w w' := by
 have H : ((impl_within.f a0 0 23).bind fun t135 => (some t135)) = some r := h
 clear h
 replace H := Option.bind_eq_some_iff.mp H
 obtain ⟨t135,A20,H⟩ := H
 replace H : (some t135) = some r := H
 have A2 := aM_ A20
 clear A20
 obtain rfl := Option.some.inj H
 go_enter Try.func56,Try.ntmps56
 go_wp2_with (first | ((with_reducible refine gate_callee (f := 68) rfl ?_);refine gL_ (some 4) Try.func68 #[.int .i64 a0,.int .i64 0,.int .i64 23] ?_;(with_reducible refine (impl_within.calls a0 0 23 t135 _ A2.out).mono ?_);rintro e w' ⟨rfl,⟨nd,rfl⟩⟩;refine ⟨_,rfl,?_⟩))
 go_ret
 exact ⟨by first | rfl | (simp;done) | (simp [*];done),by repeat (first | exact Drawn0.refl _ | apply Drawn0.step)⟩
def impl_Memory_hasRoom.f (l0_0 : List (List (S43))) (a1 : Int) : Option (Bool) := if 0 ≤ a1 then (if a1 < (l0_0.length : Int) then (some (decide (((rd_L4 l0_0 a1).length : Int) < 4000))) else (none)) else (none)
set_option maxHeartbeats 8000000 in
set_option maxRecDepth 100000 in
theorem impl_Memory_hasRoom.calls (g : Nat) (A0_0 : Option Addr) (c0_0 : Nat) (l0_0 : List (List (S43))) (a1 : Int) (r : Bool) (w : World) (hbk0 : w.heap[g]? = some (.cells #[.slice A0_0 l0_0.length c0_0] 24 (0,0))) (hr0_0 : Kd.C (Kd.slice 43 k43) w A0_0 l0_0.length l0_0) (hc0_0 : l0_0.length ≤ c0_0) (h : impl_Memory_hasRoom.f l0_0 a1 = some r) :
  Calls Try.prog 57 #[.pointer (some ⟨g,0,none⟩),.int .i64 a1] w fun e w' => e = .returned (.bool r) ∧ Below w.heap.size w w' := by
 have BK136 := aM_ hbk0
 clear hbk0
 have hu24 := Try.underlying24
 have HR0_0 := aM_ hr0_0
 have HC0_0 := aM_ hc0_0
 clear hr0_0 hc0_0
 have HB := aM_ (Below.refl w.heap.size w)
 have H : (if 0 ≤ a1 then (if a1 < (l0_0.length : Int) then (some (decide (((rd_L4 l0_0 a1).length : Int) < 4000))) else (none)) else (none)) = some r := h
 clear h
 by_cases c3 : 0 ≤ a1
 ·rw [if_pos c3] at H
  have c3b0 : decide (0 ≤ a1) = true := decide_eq_true c3
  clear c3
  by_cases c4 : a1 < (l0_0.length : Int)
  ·rw [if_pos c4] at H
   have c4b0 : decide (a1 < (l0_0.length : Int)) = true := decide_eq_true c4
   clear c4
   obtain rfl := Option.some.inj H
   go_enter Try.func57,Try.ntmps57
   have hcz6_0 : w.cell? ⟨g,0,none⟩ = some (.slice A0_0 l0_0.length c0_0) := (blk_cell BK136.out 0).trans rfl
   have hfz6_0 := blk_frozen BK136.out 0
   have p137 : 0 ≤ (a1 : Int) := of_decide_eq_true (by first | (with_reducible assumption) | assumption)
   have q137 : a1 < (l0_0.length : Int) := of_decide_eq_true (by first | (with_reducible assumption) | assumption)
   obtain ⟨ad137,A137_0,c137_0,e137,hx137_0,hl137_0,hi137_0⟩ := at_L4 HR0_0.out a1 p137 q137
   cases e137
   replace hx137_0 := cB_ HB.out hx137_0
   have HR137_0 := aM_ hi137_0
   have HC137_0 := aM_ hl137_0
   clear hi137_0 hl137_0
   replace p137 := eq_true p137
   replace q137 := eq_true q137
   go_wp2
   go_ret
   exact fI_ HB.out
  ·rw [if_neg c4] at H
   exact absurd H (by simp)
 ·rw [if_neg c3] at H
  exact absurd H (by simp)
def impl_Memory_store.f (l0_0 : List (List (S43))) (l1 : List Int) (a2 : Int) (a3 : Int) (a4 : Bool) : Option (List (List (S43)) × List Int) := (impl_copyInts.f l1).bind fun t139 => (if 0 ≤ a2 then (if a2 < (l0_0.length : Int) then (if a2 < (t139.length : Int) then ((some (t139.set (a2 : Int).toNat ((rd_L4 l0_0 a2).length : Int) : List Int)).bind fun y143 => (if 24 ≤ 35184372088832 then (if a2 < ((List.replicate 24 0).length : Int) then (if a4 = true then ((impl_copyInts.f y143).bind fun t149 => (if (rd_L4 l0_0 a2).length < 4398046511104 then (some (l0_0.set (a2 : Int).toNat (rd_L4 l0_0 a2 ++ [(⟨a3,t149⟩ : S43)]),y143)) else (none))) else (if (rd_L4 l0_0 a2).length < 4398046511104 then (some (l0_0.set (a2 : Int).toNat (rd_L4 l0_0 a2 ++ [(⟨a3,(List.replicate 24 0).set (a2 : Int).toNat (rd y143 a2)⟩ : S43)]),y143)) else (none))) else (none)) else (none))) else (none)) else (none)) else (none))
set_option maxHeartbeats 8000000 in
set_option maxRecDepth 100000 in
theorem impl_Memory_store.calls (P0_0_ : Nat → Prop) (g : Nat) (A0_0 : Option Addr) (c0_0 : Nat) (l0_0 : List (List (S43))) (A1 : Option Addr) (c1 : Nat) (l1 : List Int) (a2 : Int) (a3 : Int) (a4 : Bool) (r1 : List (List (S43))) (r2 : List Int) (b0 : Nat) (w : World) (hbk0 : w.heap[g]? = some (.cells #[.slice A0_0 l0_0.length c0_0] 24 (0,0))) (hS0 : Kd.S (sslice 43 k43) 44 w b0 P0_0_ (.slice A0_0 l0_0.length c0_0) l0_0) (hb0 : b0 ≤ w.heap.size) (hr1 : Kd.C (Kd.int .i64) w A1 l1.length l1) (hc1 : l1.length ≤ c1) (h : impl_Memory_store.f l0_0 l1 a2 a3 a4 = some (r1,r2)) :
  Calls Try.prog 59 #[.pointer (some ⟨g,0,none⟩),.slice A1 l1.length c1,.int .i64 a2,.int .i64 a3,.bool a4] w fun e w' => ∃ v0_ : Value,e = .returned (v0_) ∧ w'.heap[g]? = some (.cells #[.slice A0_0 l0_0.length c0_0] 24 (0,0)) ∧ Kd.S (sslice 43 k43) 44 w' b0 (fun k_ => (P0_0_ k_ ∨ w.heap.size ≤ k_) ∧ some k_ ≠ (v0_ : Value).ownBlock) (.slice A0_0 l0_0.length c0_0) r1 ∧ Kd.R (Kd.int .i64) 3 w' w.heap.size (fun k_ => (w.heap.size ≤ k_)) v0_ r2 ∧ Below b0 w w' ∧ Kept w w' P0_0_ := by
 have hr0_0 : Kd.C (Kd.slice 43 k43) w A0_0 l0_0.length l0_0 := (Kd.R_reads' (S_Rs hS0)).2.2
 have hc0_0 : l0_0.length ≤ c0_0 := (Kd.R_reads' (S_Rs hS0)).2.1
 have hS := aM_ hS0
 have hb0w := aM_ hb0
 have BK138 := aM_ hbk0
 clear hS0 hb0 hbk0
 have hu24 := Try.underlying24
 have HR0_0 := aM_ hr0_0
 have HC0_0 := aM_ hc0_0
 clear hr0_0 hc0_0
 have HR1 := aM_ hr1
 have HC1 := aM_ hc1
 clear hr1 hc1
 have HB := aM_ (Below.refl w.heap.size w)
 have H : ((impl_copyInts.f l1).bind fun t139 => (if 0 ≤ a2 then (if a2 < (l0_0.length : Int) then (if a2 < (t139.length : Int) then ((some (t139.set (a2 : Int).toNat ((rd_L4 l0_0 a2).length : Int) : List Int)).bind fun y143 => (if 24 ≤ 35184372088832 then (if a2 < ((List.replicate 24 0).length : Int) then (if a4 = true then ((impl_copyInts.f y143).bind fun t149 => (if (rd_L4 l0_0 a2).length < 4398046511104 then (some (l0_0.set (a2 : Int).toNat (rd_L4 l0_0 a2 ++ [(⟨a3,t149⟩ : S43)]),y143)) else (none))) else (if (rd_L4 l0_0 a2).length < 4398046511104 then (some (l0_0.set (a2 : Int).toNat (rd_L4 l0_0 a2 ++ [(⟨a3,(List.replicate 24 0).set (a2 : Int).toNat (rd y143 a2)⟩ : S43)]),y143)) else (none))) else (none)) else (none))) else (none)) else (none)) else (none))) = some (r1,r2) := h
 clear h
 replace H := Option.bind_eq_some_iff.mp H
 obtain ⟨t139,A60,H⟩ := H
 replace H : (if 0 ≤ a2 then (if a2 < (l0_0.length : Int) then (if a2 < (t139.length : Int) then ((some (t139.set (a2 : Int).toNat ((rd_L4 l0_0 a2).length : Int) : List Int)).bind fun y143 => (if 24 ≤ 35184372088832 then (if a2 < ((List.replicate 24 0).length : Int) then (if a4 = true then ((impl_copyInts.f y143).bind fun t149 => (if (rd_L4 l0_0 a2).length < 4398046511104 then (some (l0_0.set (a2 : Int).toNat (rd_L4 l0_0 a2 ++ [(⟨a3,t149⟩ : S43)]),y143)) else (none))) else (if (rd_L4 l0_0 a2).length < 4398046511104 then (some (l0_0.set (a2 : Int).toNat (rd_L4 l0_0 a2 ++ [(⟨a3,(List.replicate 24 0).set (a2 : Int).toNat (rd y143 a2)⟩ : S43)]),y143)) else (none))) else (none)) else (none))) else (none)) else (none)) else (none)) = some (r1,r2) := H
 have A6 := aM_ A60
 clear A60
 by_cases c7 : 0 ≤ a2
 ·rw [if_pos c7] at H
  have c7b0 : decide (0 ≤ a2) = true := decide_eq_true c7
  clear c7
  by_cases c8 : a2 < (l0_0.length : Int)
  ·rw [if_pos c8] at H
   have c8b0 : decide (a2 < (l0_0.length : Int)) = true := decide_eq_true c8
   clear c8
   by_cases c9 : a2 < (t139.length : Int)
   ·rw [if_pos c9] at H
    have c9b0 : decide (a2 < (t139.length : Int)) = true := decide_eq_true c9
    clear c9
    obtain ⟨y143,hy143⟩ : ∃ y_ : List Int,y_ = (t139.set (a2 : Int).toNat ((rd_L4 l0_0 a2).length : Int)) := ⟨_,rfl⟩
    replace H : (if 24 ≤ 35184372088832 then (if a2 < ((List.replicate 24 0).length : Int) then (if a4 = true then ((impl_copyInts.f y143).bind fun t149 => (if (rd_L4 l0_0 a2).length < 4398046511104 then (some (l0_0.set (a2 : Int).toNat (rd_L4 l0_0 a2 ++ [(⟨a3,t149⟩ : S43)]),y143)) else (none))) else (if (rd_L4 l0_0 a2).length < 4398046511104 then (some (l0_0.set (a2 : Int).toNat (rd_L4 l0_0 a2 ++ [(⟨a3,(List.replicate 24 0).set (a2 : Int).toNat (rd y143 a2)⟩ : S43)]),y143)) else (none))) else (none)) else (none)) = some (r1,r2) := by first | (rw [hy143];with_reducible exact H) | (have H2_ := (Option.bind_some _ _).symm.trans H;rw [hy143];with_reducible exact H2_) | (have H2_ := (Option.bind_some _ _).symm.trans H;with_reducible exact H2_) | with_reducible exact H | (rw [hy143];exact H) | exact H
    have Ny143 := aM_ hy143
    clear hy143
    by_cases c11 : 24 ≤ 35184372088832
    ·rw [if_pos c11] at H
     have c11b0 := eq_true c11
     have c11b1 : decide (24 ≤ 35184372088832) = true := decide_eq_true c11
     clear c11
     obtain ⟨y144,hy144⟩ : ∃ y_ : List Int,y_ = (List.replicate 24 0) := ⟨_,rfl⟩
     replace H : (if a2 < (y144.length : Int) then (if a4 = true then ((impl_copyInts.f y143).bind fun t149 => (if (rd_L4 l0_0 a2).length < 4398046511104 then (some (l0_0.set (a2 : Int).toNat (rd_L4 l0_0 a2 ++ [(⟨a3,t149⟩ : S43)]),y143)) else (none))) else (if (rd_L4 l0_0 a2).length < 4398046511104 then (some (l0_0.set (a2 : Int).toNat (rd_L4 l0_0 a2 ++ [(⟨a3,y144.set (a2 : Int).toNat (rd y143 a2)⟩ : S43)]),y143)) else (none))) else (none)) = some (r1,r2) := by first | (rw [hy144];with_reducible exact H) | (have H2_ := (Option.bind_some _ _).symm.trans H;rw [hy144];with_reducible exact H2_) | (have H2_ := (Option.bind_some _ _).symm.trans H;with_reducible exact H2_) | with_reducible exact H | (rw [hy144];exact H) | exact H
     have Ny144 := aM_ hy144
     clear hy144
     by_cases c12 : a2 < (y144.length : Int)
     ·rw [if_pos c12] at H
      have c12b0 : decide (a2 < (y144.length : Int)) = true := decide_eq_true c12
      clear c12
      obtain ⟨y148,hy148⟩ : ∃ y_ : List Int,y_ = (y144.set (a2 : Int).toNat (rd y143 a2)) := ⟨_,rfl⟩
      replace H : (if a4 = true then ((impl_copyInts.f y143).bind fun t149 => (if (rd_L4 l0_0 a2).length < 4398046511104 then (some (l0_0.set (a2 : Int).toNat (rd_L4 l0_0 a2 ++ [(⟨a3,t149⟩ : S43)]),y143)) else (none))) else (if (rd_L4 l0_0 a2).length < 4398046511104 then (some (l0_0.set (a2 : Int).toNat (rd_L4 l0_0 a2 ++ [(⟨a3,y148⟩ : S43)]),y143)) else (none))) = some (r1,r2) := by first | (rw [hy148];with_reducible exact H) | (have H2_ := (Option.bind_some _ _).symm.trans H;rw [hy148];with_reducible exact H2_) | (have H2_ := (Option.bind_some _ _).symm.trans H;with_reducible exact H2_) | with_reducible exact H | (rw [hy148];exact H) | exact H
      have Ny148 := aM_ hy148
      clear hy148
      by_cases c14 : a4 = true
      ·subst c14
       have H1 : ((impl_copyInts.f y143).bind fun t149 => (if (rd_L4 l0_0 a2).length < 4398046511104 then (some (l0_0.set (a2 : Int).toNat (rd_L4 l0_0 a2 ++ [(⟨a3,t149⟩ : S43)]),y143)) else (none))) = some (r1,r2) := by rw [if_pos rfl] at H;exact H
       clear H
       have H := H1
       clear H1
       replace H := Option.bind_eq_some_iff.mp H
       obtain ⟨t149,A150,H⟩ := H
       replace H : (if (rd_L4 l0_0 a2).length < 4398046511104 then (some (l0_0.set (a2 : Int).toNat (rd_L4 l0_0 a2 ++ [(⟨a3,t149⟩ : S43)]),y143)) else (none)) = some (r1,r2) := H
       have A15 := aM_ A150
       clear A150
       by_cases cP : (rd_L4 l0_0 a2).length < 4398046511104
       case neg => rw [if_neg cP] at H;exact absurd H (by simp)
       rw [if_pos cP] at H
       have LMcP := aM_ cP
       clear cP
       obtain ⟨yP,hyP⟩ : ∃ y_ : List S43,y_ = rd_L4 l0_0 a2 ++ [(⟨a3,t149⟩ : S43)] := ⟨_,rfl⟩
       replace H : (some (l0_0.set (a2 : Int).toNat yP,y143)) = some (r1,r2) := by rw [hyP];exact H
       have NyP := aM_ hyP
       clear hyP
       simp only [Option.some.injEq,Prod.mk.injEq] at H
       obtain ⟨rfl,rfl⟩ := H
       go_enter Try.func59,Try.ntmps59
       go_wp2_with (first | (go_at_call 58;(with_reducible refine (impl_copyInts.calls _ _ l1 t139 _ ?side1 ?side2 A6.out).mono ?_);(case side1 => exact cS_ (Kd.C_below HR1.out HB.out));(case side2 => exact HC1.out);rintro e w17 ⟨v140,rfl,ho0,hb⟩;have n0 := aM_ (Kd.R_lower ho0 (below_size (gB_ HB.out)));have n1 := aM_ (blk_below (g := g) (o := .cells #[.slice A0_0 l0_0.length c0_0] 24 (0,0)) (by (with_reducible repeat (first | refine bN_ ?_ _ | refine bD_ ?_ | refine bA_ ?_ _));exact BK138.out) hb);have n2 := aM_ (sT_ HB.out hb);clear BK138;clear HB;have HO141 := n0;have BK138 := n1;have HB := n2;clear n0 n1 n2;(try clear ho0);have hcz18_0 : w17.cell? ⟨g,0,none⟩ = some (.slice A0_0 l0_0.length c0_0) := (blk_cell BK138.out 0).trans rfl;have hfz18_0 := blk_frozen BK138.out 0;have p142 : 0 ≤ (a2 : Int) := of_decide_eq_true (by first | (with_reducible assumption) | assumption);have q142 : a2 < (l0_0.length : Int) := of_decide_eq_true (by first | (with_reducible assumption) | assumption);obtain ⟨ad142,A142_0,c142_0,e142,hx142_0,hl142_0,hi142_0⟩ := at_L4 HR0_0.out a2 p142 q142;cases e142;replace hx142_0 := cB_ HB.out hx142_0;have HR142_0 := aM_ hi142_0;have HC142_0 := aM_ hl142_0;clear hi142_0 hl142_0;replace p142 := eq_true p142;replace q142 := eq_true q142;have p10 : 0 ≤ (a2 : Int) := of_decide_eq_true (by first | (with_reducible assumption) | assumption);have q10 : (a2 : Int) < ((t139.length : Int) : Int) := of_decide_eq_true (by first | (with_reducible assumption) | assumption);obtain ⟨go10,co10,eo10,gb10,gl10,cl10,HG10⟩ := Kd.R_form HO141.out (by omega);(first | cases eo10 | (injection eo10 with ea_ en_ ec_;(first | subst ea_ | (injection ea_ with ea_;subst ea_));subst ec_;clear en_));have GB10 := aM_ gb10;have GG10 := aM_ HG10;clear gb10 gl10 HG10;obtain ⟨hx10_0,hf10_0⟩ := Kd.R_celln 0 HO141.out (a2 : Int) p10 q10;replace p10 := eq_true p10;replace q10 := eq_true q10;obtain ⟨hy19_,hz19_⟩ := Kd.R_celln 0 HO141.out (a2 : Int) (of_decide_eq_true (by first | (with_reducible assumption) | assumption)) (of_decide_eq_true (by first | (with_reducible assumption) | assumption));have HP19 := Kd.R_putg HO141.out (a2 : Int) ((rd_L4 l0_0 a2).length : Int)) | ((with_reducible refine gate_store (t := 3) (p := 25) rfl ?_);(try (rw [drewN_self w17];generalize hq_ : World.drewN w17 _ = w17;have n0 := aM_ (Kd.R_at hq_ HO141.out);have n1 := aM_ (blk_at hq_ BK138.out);have n2 := aM_ (below_at hq_ HB.out);clear hq_ HO141 BK138 HB;have HO141 := n0;have BK138 := n1;have HB := n2;clear n0 n1 n2;(try (obtain ⟨hy19_,hz19_⟩ := Kd.R_celln 0 HO141.out (a2 : Int) (of_decide_eq_true (by first | (with_reducible assumption) | assumption)) (of_decide_eq_true (by first | (with_reducible assumption) | assumption))));(try (have HP19 := Kd.R_putg HO141.out (a2 : Int) ((rd_L4 l0_0 a2).length : Int)))));refine store_event (t := 3) (p := 25) (v := ?vo_w20) (w1 := (w17.setCell ⟨go10,(a2 : Int).toNat,none⟩ (.int .i64 ((rd_L4 l0_0 a2).length : Int)))) ?hg ?ho ?hn ?hr ?_;(case ho => rfl);(case hg => rfl);(case hn => rfl);(case hr => first | (go_simp;done) | (go_simp;rfl));intro w20 hw;have hg : w17.grownBy w20 (some go10) := (by rw [hw];exact HP19.2);have hp_ : Kd.R (Kd.int .i64) 3 w20 w.heap.size (fun _ => True) (.slice (some ⟨go10,0,none⟩) t139.length co10) y143 := (by rw [hw,Ny143.out];exact HP19.1);clear HP19;have n0 := aM_ (blk_grown (g := g) (o := .cells #[.slice (some ad142) l0_0.length c0_0] 24 (0,0)) (by (with_reducible repeat (first | refine bN_ ?_ _ | refine bD_ ?_ | refine bA_ ?_ _));exact BK138.out) hg (Kd.R_ne HO141.out BK138.out (by decide)));have n1 := aM_ (hp_);have n2 := aM_ ((by rw [hw];exact below_set (HB.out) GB10.out : Below w.heap.size w w20));clear BK138;clear HO141;clear HB;have BK138 := n0;have HO141 := n1;have HB := n2;clear n0 n1 n2;clear hg hw hp_) | ((with_reducible refine gate_dst (N := 26) rfl ?_);refine Kd.R_make (Kd.int .i64) _ 3 rfl (N := 26) rfl 31 _ _ rfl 24 rfl rfl Try.underlying31 (.int .i64 0) 8 info3 rfl (by decide) (by omega) 0 (ok := fun _ => True) (okp := fun _ => True) rfl (fun _ hk => hk) trivial (by omega) (by omega) (Below.refl _ _) (Nat.le_refl _) ?_;intro v145 w21 ho22 hb hg_ hnew_;clear hg_ hnew_;(first | rw [← Ny144.out] at ho22 | (simp only [Int.reduceToNat] at ho22;rw [← Ny144.out] at ho22));have n0 := aM_ (Kd.R_elder' (by (with_reducible repeat (first | apply rA_ | apply rN_ | apply rD_));exact HO141.out) (Kd.R_base ho22) hb);have n1 := aM_ (Kd.R_lower (Kd.R_new' ho22 (Kd.R_lt (by (with_reducible repeat (first | apply rA_ | apply rN_ | apply rD_));exact HO141.out))) (below_size (gB_ HB.out)));have n2 := aM_ (blk_below (g := g) (o := .cells #[.slice (some ad142) l0_0.length c0_0] 24 (0,0)) (by (with_reducible repeat (first | refine bN_ ?_ _ | refine bD_ ?_ | refine bA_ ?_ _));exact BK138.out) hb);have n3 := aM_ (sT_ HB.out hb);clear HO141;clear BK138;clear HB;have HO141 := n0;have HO146 := n1;have BK138 := n2;have HB := n3;clear n0 n1 n2 n3;clear hb ho22;have p147 : 0 ≤ (a2 : Int) := of_decide_eq_true (by first | (with_reducible assumption) | assumption);have q147 : a2 < (y143.length : Int) := (by have h_ : (a2 : Int) < ((t139.length : Int) : Int) := of_decide_eq_true (by first | (with_reducible assumption) | assumption);first | (have e_ := (Kd.R_reads' HO141.out).1;omega) | simpa only [Ny143.out,List.length_set] using h_);have ql147 : ((a2 : Int) < ((t139.length : Int) : Int)) = True := eq_true (of_decide_eq_true (by first | (with_reducible assumption) | assumption));obtain ⟨ad147,e147,hx147_0⟩ := Kd.at_int (Kd.R_reads' HO141.out).2.2 a2 p147 q147;obtain rfl : (⟨go10,0,none⟩ : Addr) = ad147 := (by injection e147);(first | simp only [add_plain] at hx147_0 | simp only [add_at] at hx147_0 | simp only [Addr.add,Nat.zero_add] at hx147_0 | skip);replace p147 := eq_true p147;replace q147 := eq_true q147;have p13 : 0 ≤ (a2 : Int) := of_decide_eq_true (by first | (with_reducible assumption) | assumption);have q13 : (a2 : Int) < ((y144.length : Int) : Int) := of_decide_eq_true (by first | (with_reducible assumption) | assumption);obtain ⟨go13,co13,eo13,gb13,gl13,cl13,HG13⟩ := Kd.R_form HO146.out (by omega);(first | cases eo13 | (injection eo13 with ea_ en_ ec_;(first | subst ea_ | (injection ea_ with ea_;subst ea_));subst ec_;clear en_));have GB13 := aM_ gb13;have GG13 := aM_ HG13;clear gb13 gl13 HG13;obtain ⟨hx13_0,hf13_0⟩ := Kd.R_celln 0 HO146.out (a2 : Int) p13 q13;replace p13 := eq_true p13;replace q13 := eq_true q13;have n_ := aM_ (Kd.R_mono (ok' := (fun k_ => some k_ ≠ (.slice (some ⟨go10,0,none⟩) t139.length co10 : Value).ownBlock)) HO146.out (fun k_ hk => hk.2));clear HO146;have HO146 := n_;clear n_;obtain ⟨hy23_,hz23_⟩ := Kd.R_celln 0 HO146.out (a2 : Int) (of_decide_eq_true (by first | (with_reducible assumption) | assumption)) (of_decide_eq_true (by first | (with_reducible assumption) | assumption));have HP23 := Kd.R_putg HO146.out (a2 : Int) (rd y143 a2)) | ((with_reducible refine gate_store (t := 3) (p := 33) rfl ?_);(try (rw [drewN_self w21];generalize hq_ : World.drewN w21 _ = w21;have n0 := aM_ (Kd.R_at hq_ HO141.out);have n1 := aM_ (Kd.R_at hq_ HO146.out);have n2 := aM_ (blk_at hq_ BK138.out);have n3 := aM_ (below_at hq_ HB.out);clear hq_ HO141 HO146 BK138 HB;have HO141 := n0;have HO146 := n1;have BK138 := n2;have HB := n3;clear n0 n1 n2 n3;(try (have n_ := aM_ (Kd.R_mono (ok' := (fun k_ => some k_ ≠ (.slice (some ⟨go10,0,none⟩) t139.length co10 : Value).ownBlock)) HO146.out (fun k_ hk => hk.2));clear HO146;have HO146 := n_;clear n_));(try (obtain ⟨hy23_,hz23_⟩ := Kd.R_celln 0 HO146.out (a2 : Int) (of_decide_eq_true (by first | (with_reducible assumption) | assumption)) (of_decide_eq_true (by first | (with_reducible assumption) | assumption))));(try (have HP23 := Kd.R_putg HO146.out (a2 : Int) (rd y143 a2)))));refine store_event (t := 3) (p := 33) (v := ?vo_w24) (w1 := (w21.setCell ⟨go13,(a2 : Int).toNat,none⟩ (.int .i64 (rd y143 a2)))) ?hg ?ho ?hn ?hr ?_;(case ho => rfl);(case hg => rfl);(case hn => rfl);(case hr => first | (go_simp;done) | (go_simp;rfl));intro w24 hw;have hg : w21.grownBy w24 (some go13) := (by rw [hw];exact HP23.2);have hp_ : Kd.R (Kd.int .i64) 3 w24 w.heap.size (fun k_ => some k_ ≠ (.slice (some ⟨go10,0,none⟩) t139.length co10 : Value).ownBlock) (.slice (some ⟨go13,0,none⟩) y144.length co13) y148 := (by rw [hw,Ny148.out];exact HP23.1);clear HP23;have n0 := aM_ (blk_grown (g := g) (o := .cells #[.slice (some ad142) l0_0.length c0_0] 24 (0,0)) (by (with_reducible repeat (first | refine bN_ ?_ _ | refine bD_ ?_ | refine bA_ ?_ _));exact BK138.out) hg (Kd.R_ne HO146.out BK138.out (by decide)));have n1 := aM_ (Kd.R_after (v := (.slice (some ⟨go13,0,none⟩) y144.length co13)) (v1 := (.slice (some ⟨go13,0,none⟩) y144.length co13)) (ok := (fun _ => True)) (by (with_reducible repeat (first | apply rA_ | apply rN_ | apply rD_));exact HO141.out) hg (.inl rfl));have n2 := aM_ (hp_);have n3 := aM_ ((by rw [hw];exact below_set (HB.out) GB13.out : Below w.heap.size w w24));clear BK138;clear HO141;clear HO146;clear HB;have BK138 := n0;have HO141 := n1;have HO146 := n2;have HB := n3;clear n0 n1 n2 n3;clear hg hw hp_) | (go_at_call 58;refine calls_of_args (args' := #[.slice (some ⟨go10,0,none⟩) y143.length co10]) (by first | (rw [show y143.length = t139.length from (Kd.R_reads' HO141.out).1.symm] <;> rfl) | rfl) ?_;(with_reducible refine (impl_copyInts.calls _ _ y143 t149 _ ?side1 ?side2 A15.out).mono ?_);(case side1 => exact cS_ (Kd.R_reads' HO141.out).2.2);(case side2 => rw [show y143.length = t139.length from (Kd.R_reads' HO141.out).1.symm];exact (Kd.R_reads' HO141.out).2.1);rintro e w25 ⟨v150,rfl,ho0,hb⟩;have n0 := aM_ (Kd.R_elder' (by (with_reducible repeat (first | apply rA_ | apply rN_ | apply rD_));exact HO141.out) (Kd.R_base ho0) hb);have n1 := aM_ (Kd.R_elder' (by (with_reducible repeat (first | apply rA_ | apply rN_ | apply rD_));exact HO146.out) (Kd.R_base ho0) hb);have n2 := aM_ (Kd.R_lower (Kd.R_new' (Kd.R_new' ho0 (Kd.R_lt (by (with_reducible repeat (first | apply rA_ | apply rN_ | apply rD_));exact HO141.out))) (Kd.R_lt (by (with_reducible repeat (first | apply rA_ | apply rN_ | apply rD_));exact HO146.out))) (below_size (gB_ HB.out)));have n3 := aM_ (blk_below (g := g) (o := .cells #[.slice (some ad142) l0_0.length c0_0] 24 (0,0)) (by (with_reducible repeat (first | refine bN_ ?_ _ | refine bD_ ?_ | refine bA_ ?_ _));exact BK138.out) hb);have n4 := aM_ (sT_ HB.out hb);clear HO141;clear HO146;clear BK138;clear HB;have HO141 := n0;have HO146 := n1;have HO151 := n2;have BK138 := n3;have HB := n4;clear n0 n1 n2 n3 n4;(try clear ho0)))
       obtain ⟨AT_,cT_,rfl⟩ := Kd.R_slice HO151.out
       replace HO141 := aM_ (Kd.R_drew HO141.out)
       replace HO146 := aM_ (Kd.R_drew HO146.out)
       replace HO151 := aM_ (Kd.R_drew HO151.out)
       replace BK138 := aM_ (blk_drew BK138.out)
       replace HB := aM_ (below_drew1 HB.out)
       have hbs_ := below_size HB.out
       have HSm := aM_ (Kd.S_old hS.out HB.out)
       have hp_ : 0 ≤ a2 := of_decide_eq_true c7b0
       have hq_ : a2 < (l0_0.length : Int) := of_decide_eq_true c8b0
       obtain ⟨gM,rfl⟩ := Kd.R_head (Kd.S_R HSm.out)
       obtain ⟨oki,Ae,ce,hSe,hcM,hoki,⟨cellsM,hBM⟩,hback⟩ := S_push HSm.out a2 hp_ hq_
       have HSe := aM_ hSe
       have BKM := aM_ hBM
       have hkM := aM_ ((blk_cell hBM (a2).toNat).symm.trans hcM)
       have HBK := aM_ hback
       have HOK := aM_ hoki
       have HGM : Aside0 (gM < w.heap.size) := ⟨((Kd.S_R HSm.out).1 gM rfl).2⟩
       have HRW : Aside0 (∀ k,(Value.slice Ae (rd_L4 l0_0 a2).length ce).ownBlock = some k → P0_0_ k ∧ k < w.heap.size) := ⟨fun k hk => (hoki k ((Kd.S_R hSe).1 k hk)).1⟩
       clear hSe hBM hcM hback hoki hp_ hq_
       refine start_ (n := 19) (S := fun w' => w'.cell? ⟨g,0,none⟩ = some (.slice (some ⟨gM,0,none⟩) l0_0.length c0_0) ∧ w'.cell? ⟨gM,(a2).toNat,none⟩ = some (.slice Ae (rd_L4 l0_0 a2).length ce)) (ds := [18]) #[false,false,false,false,false,false,false,false,false,false,false,false,false,false,false,false,false,false,false] (by kernel_rfl) rfl rfl ⟨(blk_cell (BK138.out) 0).trans rfl,(blk_cell (BKM.out) _).trans hkM.out⟩ (fun hHeld => ?_)
       generalize w25.drew = wR at HO141 HO146 HO151 BK138 HB HSm HSe BKM HBK hbs_ hHeld ⊢
       refine pU_ 0 (some 37) (mk_ 19 1) ?_
       refine pU_ 1 (some 38) (mk_ 19 3) ?_
       refine pU_ 2 (some 39) (mk_ 19 7) ?_
       refine pU_ 4 (some 41) (mk_ 19 23) ?_
       refine pU_ 5 (some 42) (mk_ 19 55) ?_
       refine pU_ 6 (some 43) (mk_ 19 119) ?_
       refine pU_ 7 (some 44) (mk_ 19 247) ?_
       refine pU_ 9 (some 46) (mk_ 19 759) ?_
       refine pU_ 12 (some 49) (mk_ 19 4855) ?_
       refine pU_ 13 (some 50) (mk_ 19 13047) ?_
       refine pU_ 14 (some 51) (mk_ 19 29431) ?_
       refine tK2_ 3 (some 40) (mk_ 19 29439) ?_
       refine tK2_ 8 (some 45) (mk_ 19 29695) ?_
       refine pU_ 10 (some 47) (mk_ 19 30719) ?_
       refine tK2_ 11 (some 48) (mk_ 19 32767) ?_
       refine oN_ 15 (some 52) (mk_ 19 65535) (fun K hK => ?_)
       refine value_ (w1 := ?_) (v := ?_) (by rfl) rfl ?_ ?_
       rotate_left 2
       ·go_simp
        constructor
        ·rfl
        ·rfl
       refine hK.out _ _ ⟨(blk_cell (blk_alloc BK138.out _) 0).trans rfl,(blk_cell (blk_alloc BKM.out _) _).trans hkM.out⟩ (fun hHeld => ?_)
       clear hK K
       refine norm_ (a' := ?_) ?_ ?_
       rotate_left
       ·show Act.put _ (some 52) _ = _
        simp only [pt_,pn_,sI_,s0_,s1_,i64_w,i32_w]
        rfl
       refine oN_ 16 (some 53) (mk_ 19 131071) (fun K hK => ?_)
       have hT1 := HO151.out.1
       have hT2 : ∀ k,(.slice AT_ t149.length cT_ : Value).ownBlock = some k → w.heap.size ≤ k := Kd.R_base HO151.out
       refine Kd.S_append_step k43 (w0 := w) b0 (by rfl) (.tmp 48) (.tmp 52) 44 43 (.agg #[(.int .i64 0),(.slice none 0 0)]) 32 rfl Try.underlying44 info43 rfl (by decide) (by omega) (.slice Ae (rd_L4 l0_0 a2).length ce) (rd_L4 l0_0 a2) (⟨a3,t149⟩ : S43) [.int .i64 a3,.slice AT_ t149.length cT_] (fun k_ => oki k_ ∨ (w.heap.size ≤ k_ ∧ some k_ ≠ (.slice (some ⟨go10,0,none⟩) t139.length co10 : Value).ownBlock)) (fun k_ => some k_ = (.slice AT_ t149.length cT_ : Value).ownBlock) rfl rfl ?aP ?aK ?aF ?aO ?aB ?aS ?aL ?_
       (case aP => exact k43_mkM _ _ _ (⟨a3,t149⟩ : S43) (Kd.R_mono (Kd.R_tight rfl (Kd.R_lower HO151.out hb0w.out)) (fun _ h_ => h_)))
       (case aK => exact fun k hk => ⟨.inr ⟨hT2 k hk.symm,by have h1 := hT1 k hk.symm;first | exact h1.2.1 | exact h1.2 | exact h1.1 | exact h1.1.2 | exact h1⟩,fun e => absurd (hT2 k hk.symm) (Nat.not_le.2 (HRW.out k e.symm).2)⟩)
       (case aF => exact fun k hk => .inr ⟨Nat.le_trans hbs_ hk,fun e => Nat.not_le.2 (Kd.R_lt HO141.out k e.symm) hk⟩)
       (case aO => exact Kd.S_mono HSe.out (fun k hk => ⟨.inl hk,fun e => absurd (hT2 k e.symm) (Nat.not_le.2 (HOK.out k hk).1.2)⟩))
       (case aB => exact HB.out.mono hb0w.out)
       (case aS => exact Nat.le_trans hb0w.out hbs_)
       (case aL => have := LMcP.out;omega)
       intro vP wP ho hb hg hat
       rw [← NyP.out] at ho
       have hnb : ∀ {g t : Nat} {cs : Array Value},wR.heap[g]? = some (.cells cs t (0,0)) → t ≠ 43 → some g ≠ (Value.slice Ae (rd_L4 l0_0 a2).length ce).ownBlock := fun hb_ ht => Kd.S_ne HSe.out hb_ (Ne.symm ht)
       have HKP : Aside0 (Kept w wP P0_0_) := ⟨Kept.of_grown hg (Kept.of_below HB.out P0_0_) (fun k e => .inl (HRW.out k e).1)⟩
       have BK138n := aM_ (blk_grown BK138.out hg (hnb BK138.out (by decide)))
       have BKMn := aM_ (blk_grown BKM.out hg (hnb BKM.out (by decide)))
       have HO141n := aM_ (Kd.R_mono (Kd.R_grown (Kd.R_bound HO141.out) hg (fun k hk e => absurd hk.2.1 (Nat.not_le.2 (HRW.out k e.symm).2))) (fun _ hk => hk.1))
       clear hT1 hT2 hnb
       clear BK138 BKM HO141 HB HSm
       have BK138 := BK138n
       have BKM := BKMn
       have HO141 := HO141n
       clear BK138n BKMn HO141n
       obtain ⟨An,cn,rfl⟩ := Kd.S_slice ho
       have HP := aM_ ho
       have HBP : Aside0 (Below b0 w wP) := ⟨hb⟩
       have HG := aM_ hg
       clear ho hb hg hat
       refine hK.out _ _ ⟨(blk_cell (BK138.out) 0).trans rfl,(blk_cell (BKM.out) _).trans hkM.out⟩ (fun hHeld => ?_)
       clear hK K
       refine norm_ (a' := ?_) ?_ ?_
       rotate_left
       ·show Act.put _ (some 53) _ = _
        simp only [pt_,pn_,sI_,s0_,s1_,i64_w,i32_w]
        rfl
       refine pU_ 17 (some 54) (mk_ 19 262143) ?_
       refine last_ (i := 18) (N := none) #[true,true,true,true,true,true,true,true,true,true,true,true,true,true,true,true,true,true,true] rfl rfl (by kernel_rfl) (by decide) (fun K hK => ?_)
       have hsM : wP.cell? ⟨gM,(a2).toNat,none⟩ = some (.slice Ae (rd_L4 l0_0 a2).length ce) := (blk_cell BKM.out _).trans hkM.out
       have hfM := blk_frozen BKM.out (a2).toNat
       refine skip_ (w1 := ?_) (by rfl) rfl ?_ ?_
       rotate_left
       ·go_simp
        rfl
       refine hK.out _ _ ?_
       clear hK K
       refine done_ (by kernel_rfl) ?_
       have HSn := aM_ (HBK.out wP (.slice An yP.length cn) yP (fun k_ => w.heap.size ≤ k_ ∧ some k_ ≠ (.slice (some ⟨go10,0,none⟩) t139.length co10 : Value).ownBlock) HG.out HP.out (fun k hk => ⟨fun h => Nat.not_le.2 h.2 hk.1,fun e => absurd (e ▸ hk.1) (Nat.not_le.2 HGM.out)⟩))
       replace BK138 := aM_ (blk_far (p := ⟨gM,(a2).toNat,none⟩) BK138.out (by intro e_;have h_ := BK138.out;rw [show _ = gM from e_,BKM.out] at h_;simp at h_) (.slice An yP.length cn))
       replace HO141 := aM_ (Kd.R_mono (Kd.R_far (p := ⟨gM,(a2).toNat,none⟩) (Kd.R_bound HO141.out) (fun k hk e => absurd hk.2.1 (Nat.not_le.2 (show k < w.heap.size from (show k = gM from e) ▸ HGM.out))) (.slice An yP.length cn)) (fun _ hk => hk.1))
       replace HKP := aM_ (HKP.out.setCell (p := ⟨gM,(a2).toNat,none⟩) (.inl ((Kd.S_R hS.out).1 gM rfl)) (.slice An yP.length cn))
       replace HBP : Aside0 (Below b0 w (wP.setCell ⟨gM,(a2).toNat,none⟩ (.slice An yP.length cn))) := ⟨HBP.out.setCell (Kd.S_base hS.out gM rfl) _⟩
       clear hsM hfM HG HP HBK HSe BKM hkM HOK HRW hHeld
       generalize (wP.setCell ⟨gM,(a2).toNat,none⟩ (.slice An yP.length cn)) = wQ at HSn HKP HBP BK138 HO141 ⊢
       go_wp2
       go_ret
       exact ⟨_,by first | rfl | (simp [*];done),BK138.out,Kd.S_mono HSn.out (fun k hk => hk.elim (fun h => ⟨.inl h.1,fun e => absurd (Kd.R_base HO141.out k e.symm) (Nat.not_le.2 h.2)⟩) (fun h => ⟨.inr h.1,h.2⟩)),Kd.R_mono (Kd.R_bound HO141.out) (fun _ hk => hk.2.1),HBP.out,HKP.out⟩
      ·replace c14 := Bool.eq_false_iff.mpr c14
       subst c14
       have H1 : (if (rd_L4 l0_0 a2).length < 4398046511104 then (some (l0_0.set (a2 : Int).toNat (rd_L4 l0_0 a2 ++ [(⟨a3,y148⟩ : S43)]),y143)) else (none)) = some (r1,r2) := by rw [if_neg (show ¬ (false = true) by decide)] at H;exact H
       clear H
       have H := H1
       clear H1
       by_cases cP : (rd_L4 l0_0 a2).length < 4398046511104
       case neg => rw [if_neg cP] at H;exact absurd H (by simp)
       rw [if_pos cP] at H
       have LMcP := aM_ cP
       clear cP
       obtain ⟨yP,hyP⟩ : ∃ y_ : List S43,y_ = rd_L4 l0_0 a2 ++ [(⟨a3,y148⟩ : S43)] := ⟨_,rfl⟩
       replace H : (some (l0_0.set (a2 : Int).toNat yP,y143)) = some (r1,r2) := by rw [hyP];exact H
       have NyP := aM_ hyP
       clear hyP
       simp only [Option.some.injEq,Prod.mk.injEq] at H
       obtain ⟨rfl,rfl⟩ := H
       go_enter Try.func59,Try.ntmps59
       go_wp2_with (first | (go_at_call 58;(with_reducible refine (impl_copyInts.calls _ _ l1 t139 _ ?side1 ?side2 A6.out).mono ?_);(case side1 => exact cS_ (Kd.C_below HR1.out HB.out));(case side2 => exact HC1.out);rintro e w27 ⟨v140,rfl,ho0,hb⟩;have n0 := aM_ (Kd.R_lower ho0 (below_size (gB_ HB.out)));have n1 := aM_ (blk_below (g := g) (o := .cells #[.slice A0_0 l0_0.length c0_0] 24 (0,0)) (by (with_reducible repeat (first | refine bN_ ?_ _ | refine bD_ ?_ | refine bA_ ?_ _));exact BK138.out) hb);have n2 := aM_ (sT_ HB.out hb);clear BK138;clear HB;have HO141 := n0;have BK138 := n1;have HB := n2;clear n0 n1 n2;(try clear ho0);have hcz28_0 : w27.cell? ⟨g,0,none⟩ = some (.slice A0_0 l0_0.length c0_0) := (blk_cell BK138.out 0).trans rfl;have hfz28_0 := blk_frozen BK138.out 0;have p142 : 0 ≤ (a2 : Int) := of_decide_eq_true (by first | (with_reducible assumption) | assumption);have q142 : a2 < (l0_0.length : Int) := of_decide_eq_true (by first | (with_reducible assumption) | assumption);obtain ⟨ad142,A142_0,c142_0,e142,hx142_0,hl142_0,hi142_0⟩ := at_L4 HR0_0.out a2 p142 q142;cases e142;replace hx142_0 := cB_ HB.out hx142_0;have HR142_0 := aM_ hi142_0;have HC142_0 := aM_ hl142_0;clear hi142_0 hl142_0;replace p142 := eq_true p142;replace q142 := eq_true q142;have p10 : 0 ≤ (a2 : Int) := of_decide_eq_true (by first | (with_reducible assumption) | assumption);have q10 : (a2 : Int) < ((t139.length : Int) : Int) := of_decide_eq_true (by first | (with_reducible assumption) | assumption);obtain ⟨go10,co10,eo10,gb10,gl10,cl10,HG10⟩ := Kd.R_form HO141.out (by omega);(first | cases eo10 | (injection eo10 with ea_ en_ ec_;(first | subst ea_ | (injection ea_ with ea_;subst ea_));subst ec_;clear en_));have GB10 := aM_ gb10;have GG10 := aM_ HG10;clear gb10 gl10 HG10;obtain ⟨hx10_0,hf10_0⟩ := Kd.R_celln 0 HO141.out (a2 : Int) p10 q10;replace p10 := eq_true p10;replace q10 := eq_true q10;obtain ⟨hy29_,hz29_⟩ := Kd.R_celln 0 HO141.out (a2 : Int) (of_decide_eq_true (by first | (with_reducible assumption) | assumption)) (of_decide_eq_true (by first | (with_reducible assumption) | assumption));have HP29 := Kd.R_putg HO141.out (a2 : Int) ((rd_L4 l0_0 a2).length : Int)) | ((with_reducible refine gate_store (t := 3) (p := 25) rfl ?_);(try (rw [drewN_self w27];generalize hq_ : World.drewN w27 _ = w27;have n0 := aM_ (Kd.R_at hq_ HO141.out);have n1 := aM_ (blk_at hq_ BK138.out);have n2 := aM_ (below_at hq_ HB.out);clear hq_ HO141 BK138 HB;have HO141 := n0;have BK138 := n1;have HB := n2;clear n0 n1 n2;(try (obtain ⟨hy29_,hz29_⟩ := Kd.R_celln 0 HO141.out (a2 : Int) (of_decide_eq_true (by first | (with_reducible assumption) | assumption)) (of_decide_eq_true (by first | (with_reducible assumption) | assumption))));(try (have HP29 := Kd.R_putg HO141.out (a2 : Int) ((rd_L4 l0_0 a2).length : Int)))));refine store_event (t := 3) (p := 25) (v := ?vo_w30) (w1 := (w27.setCell ⟨go10,(a2 : Int).toNat,none⟩ (.int .i64 ((rd_L4 l0_0 a2).length : Int)))) ?hg ?ho ?hn ?hr ?_;(case ho => rfl);(case hg => rfl);(case hn => rfl);(case hr => first | (go_simp;done) | (go_simp;rfl));intro w30 hw;have hg : w27.grownBy w30 (some go10) := (by rw [hw];exact HP29.2);have hp_ : Kd.R (Kd.int .i64) 3 w30 w.heap.size (fun _ => True) (.slice (some ⟨go10,0,none⟩) t139.length co10) y143 := (by rw [hw,Ny143.out];exact HP29.1);clear HP29;have n0 := aM_ (blk_grown (g := g) (o := .cells #[.slice (some ad142) l0_0.length c0_0] 24 (0,0)) (by (with_reducible repeat (first | refine bN_ ?_ _ | refine bD_ ?_ | refine bA_ ?_ _));exact BK138.out) hg (Kd.R_ne HO141.out BK138.out (by decide)));have n1 := aM_ (hp_);have n2 := aM_ ((by rw [hw];exact below_set (HB.out) GB10.out : Below w.heap.size w w30));clear BK138;clear HO141;clear HB;have BK138 := n0;have HO141 := n1;have HB := n2;clear n0 n1 n2;clear hg hw hp_) | ((with_reducible refine gate_dst (N := 26) rfl ?_);refine Kd.R_make (Kd.int .i64) _ 3 rfl (N := 26) rfl 31 _ _ rfl 24 rfl rfl Try.underlying31 (.int .i64 0) 8 info3 rfl (by decide) (by omega) 0 (ok := fun _ => True) (okp := fun _ => True) rfl (fun _ hk => hk) trivial (by omega) (by omega) (Below.refl _ _) (Nat.le_refl _) ?_;intro v145 w31 ho32 hb hg_ hnew_;clear hg_ hnew_;(first | rw [← Ny144.out] at ho32 | (simp only [Int.reduceToNat] at ho32;rw [← Ny144.out] at ho32));have n0 := aM_ (Kd.R_elder' (by (with_reducible repeat (first | apply rA_ | apply rN_ | apply rD_));exact HO141.out) (Kd.R_base ho32) hb);have n1 := aM_ (Kd.R_lower (Kd.R_new' ho32 (Kd.R_lt (by (with_reducible repeat (first | apply rA_ | apply rN_ | apply rD_));exact HO141.out))) (below_size (gB_ HB.out)));have n2 := aM_ (blk_below (g := g) (o := .cells #[.slice (some ad142) l0_0.length c0_0] 24 (0,0)) (by (with_reducible repeat (first | refine bN_ ?_ _ | refine bD_ ?_ | refine bA_ ?_ _));exact BK138.out) hb);have n3 := aM_ (sT_ HB.out hb);clear HO141;clear BK138;clear HB;have HO141 := n0;have HO146 := n1;have BK138 := n2;have HB := n3;clear n0 n1 n2 n3;clear hb ho32;have p147 : 0 ≤ (a2 : Int) := of_decide_eq_true (by first | (with_reducible assumption) | assumption);have q147 : a2 < (y143.length : Int) := (by have h_ : (a2 : Int) < ((t139.length : Int) : Int) := of_decide_eq_true (by first | (with_reducible assumption) | assumption);first | (have e_ := (Kd.R_reads' HO141.out).1;omega) | simpa only [Ny143.out,List.length_set] using h_);have ql147 : ((a2 : Int) < ((t139.length : Int) : Int)) = True := eq_true (of_decide_eq_true (by first | (with_reducible assumption) | assumption));obtain ⟨ad147,e147,hx147_0⟩ := Kd.at_int (Kd.R_reads' HO141.out).2.2 a2 p147 q147;obtain rfl : (⟨go10,0,none⟩ : Addr) = ad147 := (by injection e147);(first | simp only [add_plain] at hx147_0 | simp only [add_at] at hx147_0 | simp only [Addr.add,Nat.zero_add] at hx147_0 | skip);replace p147 := eq_true p147;replace q147 := eq_true q147;have p13 : 0 ≤ (a2 : Int) := of_decide_eq_true (by first | (with_reducible assumption) | assumption);have q13 : (a2 : Int) < ((y144.length : Int) : Int) := of_decide_eq_true (by first | (with_reducible assumption) | assumption);obtain ⟨go13,co13,eo13,gb13,gl13,cl13,HG13⟩ := Kd.R_form HO146.out (by omega);(first | cases eo13 | (injection eo13 with ea_ en_ ec_;(first | subst ea_ | (injection ea_ with ea_;subst ea_));subst ec_;clear en_));have GB13 := aM_ gb13;have GG13 := aM_ HG13;clear gb13 gl13 HG13;obtain ⟨hx13_0,hf13_0⟩ := Kd.R_celln 0 HO146.out (a2 : Int) p13 q13;replace p13 := eq_true p13;replace q13 := eq_true q13;have n_ := aM_ (Kd.R_mono (ok' := (fun k_ => some k_ ≠ (.slice (some ⟨go10,0,none⟩) t139.length co10 : Value).ownBlock)) HO146.out (fun k_ hk => hk.2));clear HO146;have HO146 := n_;clear n_;obtain ⟨hy33_,hz33_⟩ := Kd.R_celln 0 HO146.out (a2 : Int) (of_decide_eq_true (by first | (with_reducible assumption) | assumption)) (of_decide_eq_true (by first | (with_reducible assumption) | assumption));have HP33 := Kd.R_putg HO146.out (a2 : Int) (rd y143 a2)) | ((with_reducible refine gate_store (t := 3) (p := 33) rfl ?_);(try (rw [drewN_self w31];generalize hq_ : World.drewN w31 _ = w31;have n0 := aM_ (Kd.R_at hq_ HO141.out);have n1 := aM_ (Kd.R_at hq_ HO146.out);have n2 := aM_ (blk_at hq_ BK138.out);have n3 := aM_ (below_at hq_ HB.out);clear hq_ HO141 HO146 BK138 HB;have HO141 := n0;have HO146 := n1;have BK138 := n2;have HB := n3;clear n0 n1 n2 n3;(try (have n_ := aM_ (Kd.R_mono (ok' := (fun k_ => some k_ ≠ (.slice (some ⟨go10,0,none⟩) t139.length co10 : Value).ownBlock)) HO146.out (fun k_ hk => hk.2));clear HO146;have HO146 := n_;clear n_));(try (obtain ⟨hy33_,hz33_⟩ := Kd.R_celln 0 HO146.out (a2 : Int) (of_decide_eq_true (by first | (with_reducible assumption) | assumption)) (of_decide_eq_true (by first | (with_reducible assumption) | assumption))));(try (have HP33 := Kd.R_putg HO146.out (a2 : Int) (rd y143 a2)))));refine store_event (t := 3) (p := 33) (v := ?vo_w34) (w1 := (w31.setCell ⟨go13,(a2 : Int).toNat,none⟩ (.int .i64 (rd y143 a2)))) ?hg ?ho ?hn ?hr ?_;(case ho => rfl);(case hg => rfl);(case hn => rfl);(case hr => first | (go_simp;done) | (go_simp;rfl));intro w34 hw;have hg : w31.grownBy w34 (some go13) := (by rw [hw];exact HP33.2);have hp_ : Kd.R (Kd.int .i64) 3 w34 w.heap.size (fun k_ => some k_ ≠ (.slice (some ⟨go10,0,none⟩) t139.length co10 : Value).ownBlock) (.slice (some ⟨go13,0,none⟩) y144.length co13) y148 := (by rw [hw,Ny148.out];exact HP33.1);clear HP33;have n0 := aM_ (blk_grown (g := g) (o := .cells #[.slice (some ad142) l0_0.length c0_0] 24 (0,0)) (by (with_reducible repeat (first | refine bN_ ?_ _ | refine bD_ ?_ | refine bA_ ?_ _));exact BK138.out) hg (Kd.R_ne HO146.out BK138.out (by decide)));have n1 := aM_ (Kd.R_after (v := (.slice (some ⟨go13,0,none⟩) y144.length co13)) (v1 := (.slice (some ⟨go13,0,none⟩) y144.length co13)) (ok := (fun _ => True)) (by (with_reducible repeat (first | apply rA_ | apply rN_ | apply rD_));exact HO141.out) hg (.inl rfl));have n2 := aM_ (hp_);have n3 := aM_ ((by rw [hw];exact below_set (HB.out) GB13.out : Below w.heap.size w w34));clear BK138;clear HO141;clear HO146;clear HB;have BK138 := n0;have HO141 := n1;have HO146 := n2;have HB := n3;clear n0 n1 n2 n3;clear hg hw hp_))
       replace HO141 := aM_ (Kd.R_drew HO141.out)
       replace HO146 := aM_ (Kd.R_drew HO146.out)
       replace BK138 := aM_ (blk_drew BK138.out)
       replace HB := aM_ (below_drew1 HB.out)
       have hbs_ := below_size HB.out
       have HSm := aM_ (Kd.S_old hS.out HB.out)
       have hp_ : 0 ≤ a2 := of_decide_eq_true c7b0
       have hq_ : a2 < (l0_0.length : Int) := of_decide_eq_true c8b0
       obtain ⟨gM,rfl⟩ := Kd.R_head (Kd.S_R HSm.out)
       obtain ⟨oki,Ae,ce,hSe,hcM,hoki,⟨cellsM,hBM⟩,hback⟩ := S_push HSm.out a2 hp_ hq_
       have HSe := aM_ hSe
       have BKM := aM_ hBM
       have hkM := aM_ ((blk_cell hBM (a2).toNat).symm.trans hcM)
       have HBK := aM_ hback
       have HOK := aM_ hoki
       have HGM : Aside0 (gM < w.heap.size) := ⟨((Kd.S_R HSm.out).1 gM rfl).2⟩
       have HRW : Aside0 (∀ k,(Value.slice Ae (rd_L4 l0_0 a2).length ce).ownBlock = some k → P0_0_ k ∧ k < w.heap.size) := ⟨fun k hk => (hoki k ((Kd.S_R hSe).1 k hk)).1⟩
       clear hSe hBM hcM hback hoki hp_ hq_
       refine start_ (n := 19) (S := fun w' => w'.cell? ⟨g,0,none⟩ = some (.slice (some ⟨gM,0,none⟩) l0_0.length c0_0) ∧ w'.cell? ⟨gM,(a2).toNat,none⟩ = some (.slice Ae (rd_L4 l0_0 a2).length ce)) (ds := [18]) #[false,false,false,false,false,false,false,false,false,false,false,false,false,false,false,false,false,false,false] (by kernel_rfl) rfl rfl ⟨(blk_cell (BK138.out) 0).trans rfl,(blk_cell (BKM.out) _).trans hkM.out⟩ (fun hHeld => ?_)
       generalize w34.drew = wR at HO141 HO146 BK138 HB HSm HSe BKM HBK hbs_ hHeld ⊢
       refine pU_ 0 (some 37) (mk_ 19 1) ?_
       refine pU_ 1 (some 38) (mk_ 19 3) ?_
       refine pU_ 2 (some 39) (mk_ 19 7) ?_
       refine pU_ 4 (some 41) (mk_ 19 23) ?_
       refine pU_ 5 (some 42) (mk_ 19 55) ?_
       refine pU_ 6 (some 43) (mk_ 19 119) ?_
       refine pU_ 7 (some 44) (mk_ 19 247) ?_
       refine pU_ 9 (some 46) (mk_ 19 759) ?_
       refine pU_ 12 (some 49) (mk_ 19 4855) ?_
       refine pU_ 13 (some 50) (mk_ 19 13047) ?_
       refine pU_ 14 (some 51) (mk_ 19 29431) ?_
       refine tK2_ 3 (some 40) (mk_ 19 29439) ?_
       refine tK2_ 8 (some 45) (mk_ 19 29695) ?_
       refine pU_ 10 (some 47) (mk_ 19 30719) ?_
       refine tK2_ 11 (some 48) (mk_ 19 32767) ?_
       refine oN_ 15 (some 52) (mk_ 19 65535) (fun K hK => ?_)
       refine value_ (w1 := ?_) (v := ?_) (by rfl) rfl ?_ ?_
       rotate_left 2
       ·go_simp
        constructor
        ·rfl
        ·rfl
       refine hK.out _ _ ⟨(blk_cell (blk_alloc BK138.out _) 0).trans rfl,(blk_cell (blk_alloc BKM.out _) _).trans hkM.out⟩ (fun hHeld => ?_)
       clear hK K
       refine norm_ (a' := ?_) ?_ ?_
       rotate_left
       ·show Act.put _ (some 52) _ = _
        simp only [pt_,pn_,sI_,s0_,s1_,i64_w,i32_w]
        rfl
       refine oN_ 16 (some 53) (mk_ 19 131071) (fun K hK => ?_)
       have hT1 := HO146.out.1
       have hT2 : ∀ k,(.slice (some ⟨go13,0,none⟩) y144.length co13 : Value).ownBlock = some k → w.heap.size ≤ k := Kd.R_base HO146.out
       refine Kd.S_append_step k43 (w0 := w) b0 (by rfl) (.tmp 48) (.tmp 52) 44 43 (.agg #[(.int .i64 0),(.slice none 0 0)]) 32 rfl Try.underlying44 info43 rfl (by decide) (by omega) (.slice Ae (rd_L4 l0_0 a2).length ce) (rd_L4 l0_0 a2) (⟨a3,y148⟩ : S43) [.int .i64 a3,.slice (some ⟨go13,0,none⟩) y144.length co13] (fun k_ => oki k_ ∨ (w.heap.size ≤ k_ ∧ some k_ ≠ (.slice (some ⟨go10,0,none⟩) t139.length co10 : Value).ownBlock)) (fun k_ => some k_ = (.slice (some ⟨go13,0,none⟩) y144.length co13 : Value).ownBlock) rfl rfl ?aP ?aK ?aF ?aO ?aB ?aS ?aL ?_
       (case aP => exact k43_mkM _ _ _ (⟨a3,y148⟩ : S43) (Kd.R_mono (Kd.R_tight rfl (Kd.R_lower HO146.out hb0w.out)) (fun _ h_ => h_)))
       (case aK => exact fun k hk => ⟨.inr ⟨hT2 k hk.symm,by have h1 := hT1 k hk.symm;first | exact h1.2.1 | exact h1.2 | exact h1.1 | exact h1.1.2 | exact h1⟩,fun e => absurd (hT2 k hk.symm) (Nat.not_le.2 (HRW.out k e.symm).2)⟩)
       (case aF => exact fun k hk => .inr ⟨Nat.le_trans hbs_ hk,fun e => Nat.not_le.2 (Kd.R_lt HO141.out k e.symm) hk⟩)
       (case aO => exact Kd.S_mono HSe.out (fun k hk => ⟨.inl hk,fun e => absurd (hT2 k e.symm) (Nat.not_le.2 (HOK.out k hk).1.2)⟩))
       (case aB => exact HB.out.mono hb0w.out)
       (case aS => exact Nat.le_trans hb0w.out hbs_)
       (case aL => have := LMcP.out;omega)
       intro vP wP ho hb hg hat
       rw [← NyP.out] at ho
       have hnb : ∀ {g t : Nat} {cs : Array Value},wR.heap[g]? = some (.cells cs t (0,0)) → t ≠ 43 → some g ≠ (Value.slice Ae (rd_L4 l0_0 a2).length ce).ownBlock := fun hb_ ht => Kd.S_ne HSe.out hb_ (Ne.symm ht)
       have HKP : Aside0 (Kept w wP P0_0_) := ⟨Kept.of_grown hg (Kept.of_below HB.out P0_0_) (fun k e => .inl (HRW.out k e).1)⟩
       have BK138n := aM_ (blk_grown BK138.out hg (hnb BK138.out (by decide)))
       have BKMn := aM_ (blk_grown BKM.out hg (hnb BKM.out (by decide)))
       have HO141n := aM_ (Kd.R_mono (Kd.R_grown (Kd.R_bound HO141.out) hg (fun k hk e => absurd hk.2.1 (Nat.not_le.2 (HRW.out k e.symm).2))) (fun _ hk => hk.1))
       clear hT1 hT2 hnb
       clear BK138 BKM HO141 HB HSm
       have BK138 := BK138n
       have BKM := BKMn
       have HO141 := HO141n
       clear BK138n BKMn HO141n
       obtain ⟨An,cn,rfl⟩ := Kd.S_slice ho
       have HP := aM_ ho
       have HBP : Aside0 (Below b0 w wP) := ⟨hb⟩
       have HG := aM_ hg
       clear ho hb hg hat
       refine hK.out _ _ ⟨(blk_cell (BK138.out) 0).trans rfl,(blk_cell (BKM.out) _).trans hkM.out⟩ (fun hHeld => ?_)
       clear hK K
       refine norm_ (a' := ?_) ?_ ?_
       rotate_left
       ·show Act.put _ (some 53) _ = _
        simp only [pt_,pn_,sI_,s0_,s1_,i64_w,i32_w]
        rfl
       refine pU_ 17 (some 54) (mk_ 19 262143) ?_
       refine last_ (i := 18) (N := none) #[true,true,true,true,true,true,true,true,true,true,true,true,true,true,true,true,true,true,true] rfl rfl (by kernel_rfl) (by decide) (fun K hK => ?_)
       have hsM : wP.cell? ⟨gM,(a2).toNat,none⟩ = some (.slice Ae (rd_L4 l0_0 a2).length ce) := (blk_cell BKM.out _).trans hkM.out
       have hfM := blk_frozen BKM.out (a2).toNat
       refine skip_ (w1 := ?_) (by rfl) rfl ?_ ?_
       rotate_left
       ·go_simp
        rfl
       refine hK.out _ _ ?_
       clear hK K
       refine done_ (by kernel_rfl) ?_
       have HSn := aM_ (HBK.out wP (.slice An yP.length cn) yP (fun k_ => w.heap.size ≤ k_ ∧ some k_ ≠ (.slice (some ⟨go10,0,none⟩) t139.length co10 : Value).ownBlock) HG.out HP.out (fun k hk => ⟨fun h => Nat.not_le.2 h.2 hk.1,fun e => absurd (e ▸ hk.1) (Nat.not_le.2 HGM.out)⟩))
       replace BK138 := aM_ (blk_far (p := ⟨gM,(a2).toNat,none⟩) BK138.out (by intro e_;have h_ := BK138.out;rw [show _ = gM from e_,BKM.out] at h_;simp at h_) (.slice An yP.length cn))
       replace HO141 := aM_ (Kd.R_mono (Kd.R_far (p := ⟨gM,(a2).toNat,none⟩) (Kd.R_bound HO141.out) (fun k hk e => absurd hk.2.1 (Nat.not_le.2 (show k < w.heap.size from (show k = gM from e) ▸ HGM.out))) (.slice An yP.length cn)) (fun _ hk => hk.1))
       replace HKP := aM_ (HKP.out.setCell (p := ⟨gM,(a2).toNat,none⟩) (.inl ((Kd.S_R hS.out).1 gM rfl)) (.slice An yP.length cn))
       replace HBP : Aside0 (Below b0 w (wP.setCell ⟨gM,(a2).toNat,none⟩ (.slice An yP.length cn))) := ⟨HBP.out.setCell (Kd.S_base hS.out gM rfl) _⟩
       clear hsM hfM HG HP HBK HSe BKM hkM HOK HRW hHeld
       generalize (wP.setCell ⟨gM,(a2).toNat,none⟩ (.slice An yP.length cn)) = wQ at HSn HKP HBP BK138 HO141 ⊢
       go_wp2
       go_ret
       exact ⟨_,by first | rfl | (simp [*];done),BK138.out,Kd.S_mono HSn.out (fun k hk => hk.elim (fun h => ⟨.inl h.1,fun e => absurd (Kd.R_base HO141.out k e.symm) (Nat.not_le.2 h.2)⟩) (fun h => ⟨.inr h.1,h.2⟩)),Kd.R_mono (Kd.R_bound HO141.out) (fun _ hk => hk.2.1),HBP.out,HKP.out⟩
     ·rw [if_neg c12] at H
      exact absurd H (by simp)
    ·rw [if_neg c11] at H
     exact absurd H (by simp)
   ·rw [if_neg c9] at H
    exact absurd H (by simp)
  ·rw [if_neg c8] at H
   exact absurd H (by simp)
 ·rw [if_neg c7] at H
  exact absurd H (by simp)
end Go.Proofs.Ythbcnakmnbilhaa.PFnStore
