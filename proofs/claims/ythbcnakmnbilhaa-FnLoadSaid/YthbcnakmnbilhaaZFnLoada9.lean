/- A part of the proof that the law FnLoad holds for every input: the words, functions and walks that its row needs, without a condition of their own. -/
import Derived.Test.YthbcnakmnbilhaaZFnLoada2
import Derived.Test.YthbcnakmnbilhaaZFnLoada7
import Derived.Test.YthbcnakmnbilhaaZFnLoads
namespace Go.Proofs.Ythbcnakmnbilhaa.PFnLoad
open Go.RowKit Go.Proofs.YthbcnakmnbilhaaW.PrintWords Go.Proofs.YthbcnakmnbilhaaW.PrintLast Go.Proofs.YthbcnakmnbilhaaW.PrintMore Go.Proofs.Ythbcnakmnbilhaa.SepMark
attribute [local go_sem] max2_int min2_int max_two min_two max_three min_three max_four min_four   -- for this text's walks alone
set_option linter.unusedVariables false
set_option linter.unusedSimpArgs false
mutual
def spec_l6Copy.l0 : Nat → Int → List (List (S43)) → List (List (S43)) → Option ((List (List (S43))))
  | 0,_,_,_ => none
  | k + 1,x4,x241000,x243000 => if x4 < (x241000.length : Int) then (spec_l6Copy.l1 k x4 (([] : List (S43))) 0 x241000 x243000) else (some x243000)
def spec_l6Copy.l1 : Nat → Int → List (S43) → Int → List (List (S43)) → List (List (S43)) → Option ((List (List (S43))))
  | 0,_,_,_,_,_ => none
  | k + 1,x4,x5,x6,x241000,x243000 => if 0 ≤ x4 then (if x4 < (x241000.length : Int) then (if x6 < ((rd_L4 x241000 x4).length : Int) then (if 0 ≤ x6 then ((some (([] : List Int) : List Int)).bind fun y249 => (if y249.length + ((rd_T43 (rd_L4 x241000 x4) x6).f1).length < 17592186044416 then (if x5.length < 4398046511104 then (spec_l6Copy.l1 k x4 (x5 ++ [(⟨(rd_T43 (rd_L4 x241000 x4) x6).f0,(y249 ++ ((rd_T43 (rd_L4 x241000 x4) x6).f1))⟩ : S43)]) (wrap64 (x6 + 1)) x241000 x243000) else (none)) else (none))) else (none)) else (if x243000.length < 5864062014805 then (spec_l6Copy.l0 k (wrap64 (x4 + 1)) x241000 (x243000 ++ [x5])) else (none))) else (none)) else (none)
end
def spec_l6Copy.f (k : Nat) (l0_0 : List (List (S43))) : Option ((List (List (S43)))) := spec_l6Copy.l0 k 0 l0_0 ([] : List (List (S43)))
def spec_l6Copy.T9 : Bool × List (List Nat × List Nat) := (true,[([],[]),([],[]),([1],[1]),([],[]),([2,3],[2,3]),([4],[4]),([],[]),([5,6],[5,6]),([7],[7]),([8],[8]),([],[]),([],[]),([11],[11]),([],[]),([12,13],[12,13]),([14],[14]),([],[]),([15,16],[15,16]),([17],[17]),([18],[18]),([10,19],[10,19]),([9,20],[9,20]),([21],[21]),([0,22,20],[0,22]),([23,23,0,1,2,3,4,5,6,7,8,9,10,11,12,13,14,15,16,17,18,19,20,21,22,23],[0,23])])
def spec_l6Copy.B9 : List Nat := [0,0,2,0,14,30,0,126,254,510,0,0,2048,0,14336,30720,0,129024,260096,522240,1047552,2097150,4194302,8388607,16777215]
theorem spec_l6Copy.tab9 : rtab .any (opsOf Try.f85 9) = spec_l6Copy.T9 := by kernel_rfl
theorem spec_l6Copy.bits9 : waitsOk spec_l6Copy.T9.2 spec_l6Copy.B9 = true := by kernel_rfl
set_option maxHeartbeats 8000000 in
set_option maxRecDepth 100000 in
theorem spec_l6Copy.calls (k : Nat) (A0_0 : Option Addr) (c0_0 : Nat) (l0_0 : List (List (S43))) (r : List (List (S43))) (w00 : World) (hr0_0 : Kd.C (Kd.slice 43 k43) w00 A0_0 l0_0.length l0_0) (hc0_0 : l0_0.length ≤ c0_0) (h : spec_l6Copy.f k l0_0 = some r) :
  Calls Try.prog 85 #[.agg #[.slice A0_0 l0_0.length c0_0]] w00 fun e w' => ∃ v0_ : Value,e = .returned (.agg #[v0_]) ∧ Kd.S (sslice 43 k43) 44 w' w00.heap.size (fun _ => True) v0_ r ∧ Below w00.heap.size w00 w' := by
 have hu24 := Try.underlying24
 have hu43 := Try.underlying43
 have HR0_0 := aM_ hr0_0
 have HC0_0 := aM_ hc0_0
 clear hr0_0 hc0_0
 have HB := aM_ (Below.refl w00.heap.size w00)
 have H : (spec_l6Copy.l0 k 0 l0_0 ([] : List (List (S43)))) = some r := h
 clear h
 have H' := aM_ H
 clear H
 go_enter Try.func85,Try.ntmps85
 go_wp2_with (first | ((with_reducible refine gate_dst (N := 1) rfl ?_);refine bX_ 1 (cs := #[.slice A0_0 l0_0.length c0_0]) (t := 24) ?_;intro gb240 hg w2 hbox hb;have n0 := aM_ (sT_ HB.out hb);have n1 := aM_ (hbox);have n2 := aM_ ((by rw [hg];exact (below_size (gB_ HB.out)) : w00.heap.size ≤ gb240));have n3 := aM_ ((by rw [hg];exact (below_size (gB_ HB.out)) : w00.heap.size ≤ gb240));clear HB;have HB := n0;have BK240 := n1;have GW240 := n2;have GE240 := n3;clear n0 n1 n2 n3;clear hb hbox hg) | ((with_reducible refine gate_dst (N := 2) rfl ?_);refine bX_ 2 (cs := #[.slice none 0 0]) (t := 24) ?_;intro gb241 hg w3 hbox hb;have n0 := aM_ (nB_ BK240.out hb);have n1 := aM_ (sT_ HB.out hb);have n2 := aM_ (hbox);have n3 := aM_ ((by rw [hg];exact (below_size (gB_ HB.out)) : w00.heap.size ≤ gb241));have n4 := aM_ ((by rw [hg];exact (below_size (gB_ HB.out)) : w00.heap.size ≤ gb241));have n5 := aM_ (nL_ hg BK240.out);have n6 := aM_ (nG_ hg BK240.out);clear BK240;clear HB;have BK240 := n0;have HB := n1;have BK241 := n2;have GW241 := n3;have GE241 := n4;have NB240_241 := n5;have NB241_240 := n6;clear n0 n1 n2 n3 n4 n5 n6;clear hb hbox hg) | ((with_reducible refine gate_dst (N := 3) rfl ?_);refine bX_ 3 (cs := #[.slice none 0 0]) (t := 24) ?_;intro gb242 hg w4 hbox hb;have n0 := aM_ (nB_ BK240.out hb);have n1 := aM_ (nB_ BK241.out hb);have n2 := aM_ (sT_ HB.out hb);have n3 := aM_ (hbox);have n4 := aM_ ((by rw [hg];exact (below_size (gB_ HB.out)) : w00.heap.size ≤ gb242));have n5 := aM_ ((by rw [hg];exact (below_size (gB_ HB.out)) : w00.heap.size ≤ gb242));have n6 := aM_ (nL_ hg BK240.out);have n7 := aM_ (nG_ hg BK240.out);have n8 := aM_ (nL_ hg BK241.out);have n9 := aM_ (nG_ hg BK241.out);clear BK240;clear BK241;clear HB;have BK240 := n0;have BK241 := n1;have HB := n2;have BK242 := n3;have GW242 := n4;have GE242 := n5;have NB240_242 := n6;have NB242_240 := n7;have NB241_242 := n8;have NB242_241 := n9;clear n0 n1 n2 n3 n4 n5 n6 n7 n8 n9;clear hb hbox hg;have hnb5 := NB242_240.out;have hnc5 := NB240_242.out;have hnb6 := NB242_241.out;have hnc6 := NB241_242.out;have hcz7_0 : w4.cell? ⟨gb242,0,none⟩ = some (.slice none 0 0) := (blk_cell BK242.out 0).trans rfl;have hfz7_0 := blk_frozen BK242.out 0))
 go_loopg [4] k (fun kq v4 w' => ∃ (x4_1 : Int) (x2430_1 : List (List (S43))) (u2430 : Value),v4 = .int .i64 x4_1 ∧ Aside0 (spec_l6Copy.l0 kq x4_1 l0_0 x2430_1 = some r) ∧ Aside0 (kq ≤ k) ∧ Aside0 (Kd.S (sslice 43 k43) 44 w' w00.heap.size (fun _ => True) u2430 x2430_1) ∧ Aside0 (w'.heap[gb240]? = some (.cells #[(.slice A0_0 l0_0.length c0_0)] 24 (0,0))) ∧ Aside0 (w'.heap[gb241]? = some (.cells #[(.slice none 0 0)] 24 (0,0))) ∧ Aside0 (w'.heap[gb242]? = some (.cells #[u2430] 24 (0,0))) ∧ Aside0 (Below w00.heap.size w00 w'))
 case atStart => exact ⟨(0),(([] : List (List (S43)))),(.slice none 0 0),(by first | rfl | (simp;done) | (simp [*];done)),H',⟨Nat.le_refl _⟩,⟨by first | exact Kd.R_nil _ _ _ _ _ | exact Kd.N_nil _ _ _ _ _ | exact Kd.V_nil _ _ _ _ _ | exact Kd.Q_nil _ _ _ _ _ | exact Kd.S_nil _ _ _ _ _⟩,⟨by (with_reducible repeat (first | refine bN_ ?_ _ | refine bD_ ?_ | refine bA_ ?_ _));refine blk_far ?_ NB240_242.out _;(with_reducible repeat (first | refine bN_ ?_ _ | refine bD_ ?_ | refine bA_ ?_ _));exact BK240.out⟩,⟨by (with_reducible repeat (first | refine bN_ ?_ _ | refine bD_ ?_ | refine bA_ ?_ _));refine blk_far ?_ NB241_242.out _;(with_reducible repeat (first | refine bN_ ?_ _ | refine bD_ ?_ | refine bA_ ?_ _));exact BK241.out⟩,⟨by (with_reducible repeat (first | refine bN_ ?_ _ | refine bD_ ?_ | refine bA_ ?_ _));refine blk_put (cs := #[.slice none 0 0]) ?_ 0 _ rfl;(with_reducible repeat (first | refine bN_ ?_ _ | refine bD_ ?_ | refine bA_ ?_ _));exact BK242.out⟩,⟨gW_ HB.out⟩⟩
 case round =>
  clear H'
  try clear p2
  try clear c5
  try clear c6
  try clear hcz7_0 hfz7_0
  obtain ⟨x4_1,x2430_1,u2430,rfl,HA,HK1,HO_243000,BK240,BK241,BK242,HB⟩ := hrel
  cases gk with
  | zero => exact absurd HA.out (by simp [spec_l6Copy.l0])
  | succ k1 =>
   have H := HA.out
   clear HA
   simp only [spec_l6Copy.l0] at H
   by_cases c8 : x4_1 < (l0_0.length : Int)
   ·rw [if_pos c8] at H
    have c8b0 : decide (x4_1 < (l0_0.length : Int)) = true := decide_eq_true c8
    clear c8
    obtain ⟨w,hw⟩ : ∃ x,x = wr := ⟨wr,rfl⟩
    have HBo : Aside0 (Below w00.heap.size w00 w) := ⟨by rw [hw];exact HB.out⟩
    have HSo : Aside0 (Kd.S (sslice 43 k43) 44 w w00.heap.size (fun _ => True) u2430 x2430_1) := ⟨by rw [hw];exact HO_243000.out⟩
    have HF : Aside0 (∀ k,w.heap.size ≤ k → True ∧ some k ≠ (u2430 : Value).ownBlock) := ⟨fun k hk => ⟨trivial,fun e => Nat.not_le.2 (Kd.S_lt HSo.out k e.symm) hk⟩⟩
    replace HB : Aside0 (Below w.heap.size w wr) := ⟨by rw [hw];exact Below.refl _ _⟩
    replace HR0_0 := aM_ (Kd.C_below HR0_0.out HBo.out)
    replace HO_243000 := aM_ (S_Rs HO_243000.out)
    clear hw
    obtain ⟨y243,hy243⟩ : ∃ y_ : List (S43),y_ = (([] : List (S43))) := ⟨_,rfl⟩
    replace H : (spec_l6Copy.l1 k1 x4_1 y243 0 l0_0 x2430_1) = some r := by first | (rw [hy243];with_reducible exact H) | (have H2_ := (Option.bind_some _ _).symm.trans H;rw [hy243];with_reducible exact H2_) | (have H2_ := (Option.bind_some _ _).symm.trans H;with_reducible exact H2_) | with_reducible exact H | (rw [hy243];exact H) | exact H
    have Ny243 := aM_ hy243
    clear hy243
    have H' := aM_ H
    clear H
    have hnb9 := NB240_241.out
    have hnc9 := NB241_240.out
    have hnb10 := NB240_242.out
    have hnc10 := NB242_240.out
    have hcz11_0 : wr.cell? ⟨gb240,0,none⟩ = some (.slice A0_0 l0_0.length c0_0) := (blk_cell BK240.out 0).trans rfl
    have hfz11_0 := blk_frozen BK240.out 0
    go_wp2_with (first | ((with_reducible refine gate_dst (N := 15) rfl ?_);refine Kd.S_lit k43 _ 43 ?hg (N := 15) ?hd (xs := ([] : List (S43))) (inner := []) (ok := fun _ => True) (okp := fun _ => True) ?hr ?hp (fun _ hk => hk) trivial (Below.refl _ _) (Nat.le_refl _) (by simp) ?_;(case hd => rfl);(case hg => rfl);(case hr => first | (go_simp;done) | (go_simp;rfl));(case hp => exact (Reps.none _ _));intro v244 w12 ho13 hb hg_ hnew_;clear hg_ hnew_;(first | rw [← Ny243.out] at ho13 | (simp only [Int.reduceToNat] at ho13;rw [← Ny243.out] at ho13));have n0 := aM_ (Kd.R_elder' (by (with_reducible repeat (first | apply rA_ | apply rN_ | apply rD_));exact HO_243000.out) (Kd.S_base ho13) hb);have n1 := aM_ (Kd.S_lower ho13 (below_size (gB_ HB.out)));have n2 := aM_ (nB_ BK240.out hb);have n3 := aM_ (nB_ BK241.out hb);have n4 := aM_ (nB_ BK242.out hb);have n5 := aM_ (sT_ HB.out hb);clear HO_243000;clear BK240;clear BK241;clear BK242;clear HB;have HO_243000 := n0;have HO245 := n1;have BK240 := n2;have BK241 := n3;have BK242 := n4;have HB := n5;clear n0 n1 n2 n3 n4 n5;clear hb ho13))
    go_loopg [5,6] k1 (fun kq v5 v6 w' => ∃ (x5_2 : List (S43)) (x6_2 : Int),v6 = .int .i64 x6_2 ∧ Aside0 (spec_l6Copy.l1 kq x4_1 x5_2 x6_2 l0_0 x2430_1 = some r) ∧ Aside0 (kq ≤ k1) ∧ Aside0 (Kd.S k43 43 w' w.heap.size (fun _ => True) v5 x5_2) ∧ Aside0 (Kd.R (Kd.slice 43 k43) 44 w' w00.heap.size (fun k_ => some k_ ≠ (v5 : Value).ownBlock) u2430 x2430_1) ∧ Aside0 (w'.heap[gb240]? = some (.cells #[(.slice A0_0 l0_0.length c0_0)] 24 (0,0))) ∧ Aside0 (w'.heap[gb241]? = some (.cells #[(.slice none 0 0)] 24 (0,0))) ∧ Aside0 (w'.heap[gb242]? = some (.cells #[u2430] 24 (0,0))) ∧ Aside0 (Below w.heap.size w w'))
    case atStart => exact ⟨(y243),(0),(by first | rfl | (simp;done) | (simp [*];done)),H',⟨Nat.le_refl _⟩,⟨by (with_reducible repeat (first | apply Kd.S_alloc | apply Kd.S_drewN | apply Kd.S_drew));exact HO245.out⟩,⟨by (with_reducible repeat (first | apply rA_ | apply rN_ | apply rD_));exact Kd.R_mono HO_243000.out (fun _ hk => hk.2)⟩,⟨rW_ BK240.out⟩,⟨rW_ BK241.out⟩,⟨rW_ BK242.out⟩,⟨gW_ HB.out⟩⟩
    case round =>
     clear H'
     try clear c1
     try clear p2
     try clear c5
     try clear c6
     try clear c8
     try clear c8b0
     try clear c9
     try clear c10
     try clear hcz11_0 hfz11_0
     try clear hcz7_0 hfz7_0
     try clear p2
     obtain ⟨x5_2,x6_2,rfl,HA,HK2,HO_5,HO_243000,BK240,BK241,BK242,HB⟩ := hrel
     cases gk with
     | zero => exact absurd HA.out (by simp [spec_l6Copy.l1])
     | succ k2 =>
      have H := HA.out
      clear HA
      simp only [spec_l6Copy.l1] at H
      by_cases c14 : 0 ≤ x4_1
      ·rw [if_pos c14] at H
       have c14b0 : decide (0 ≤ x4_1) = true := decide_eq_true c14
       clear c14
       by_cases c15 : x4_1 < (l0_0.length : Int)
       ·rw [if_pos c15] at H
        have c15b0 : decide (x4_1 < (l0_0.length : Int)) = true := decide_eq_true c15
        clear c15
        by_cases c16 : x6_2 < ((rd_L4 l0_0 x4_1).length : Int)
        ·rw [if_pos c16] at H
         have c16b0 : decide (x6_2 < ((rd_L4 l0_0 x4_1).length : Int)) = true := decide_eq_true c16
         clear c16
         by_cases c17 : 0 ≤ x6_2
         ·rw [if_pos c17] at H
          have c17b0 : decide (0 ≤ x6_2) = true := decide_eq_true c17
          clear c17
          obtain ⟨y249,hy249⟩ : ∃ y_ : List Int,y_ = (([] : List Int)) := ⟨_,rfl⟩
          replace H : (if y249.length + ((rd_T43 (rd_L4 l0_0 x4_1) x6_2).f1).length < 17592186044416 then (if x5_2.length < 4398046511104 then (spec_l6Copy.l1 k2 x4_1 (x5_2 ++ [(⟨(rd_T43 (rd_L4 l0_0 x4_1) x6_2).f0,(y249 ++ ((rd_T43 (rd_L4 l0_0 x4_1) x6_2).f1))⟩ : S43)]) (wrap64 (x6_2 + 1)) l0_0 x2430_1) else (none)) else (none)) = some r := by first | (rw [hy249];with_reducible exact H) | (have H2_ := (Option.bind_some _ _).symm.trans H;rw [hy249];with_reducible exact H2_) | (have H2_ := (Option.bind_some _ _).symm.trans H;with_reducible exact H2_) | with_reducible exact H | (rw [hy249];exact H) | exact H
          have Ny249 := aM_ hy249
          clear hy249
          by_cases c18 : y249.length + ((rd_T43 (rd_L4 l0_0 x4_1) x6_2).f1).length < 17592186044416
          ·rw [if_pos c18] at H
           have LMc18 := aM_ c18
           clear c18
           obtain ⟨y254,hy254⟩ : ∃ y_ : List Int,y_ = (y249 ++ ((rd_T43 (rd_L4 l0_0 x4_1) x6_2).f1)) := ⟨_,rfl⟩
           replace H : (if x5_2.length < 4398046511104 then (spec_l6Copy.l1 k2 x4_1 (x5_2 ++ [(⟨(rd_T43 (rd_L4 l0_0 x4_1) x6_2).f0,y254⟩ : S43)]) (wrap64 (x6_2 + 1)) l0_0 x2430_1) else (none)) = some r := by first | (rw [hy254];with_reducible exact H) | (have H2_ := (Option.bind_some _ _).symm.trans H;rw [hy254];with_reducible exact H2_) | (have H2_ := (Option.bind_some _ _).symm.trans H;with_reducible exact H2_) | with_reducible exact H | (rw [hy254];exact H) | exact H
           have Ny254 := aM_ hy254
           clear hy254
           by_cases c19 : x5_2.length < 4398046511104
           ·rw [if_pos c19] at H
            have LMc19 := aM_ c19
            clear c19
            obtain ⟨y257,hy257⟩ : ∃ y_ : List (S43),y_ = (x5_2 ++ [(⟨(rd_T43 (rd_L4 l0_0 x4_1) x6_2).f0,y254⟩ : S43)]) := ⟨_,rfl⟩
            replace H : (spec_l6Copy.l1 k2 x4_1 y257 (wrap64 (x6_2 + 1)) l0_0 x2430_1) = some r := by first | (rw [hy257];with_reducible exact H) | (have H2_ := (Option.bind_some _ _).symm.trans H;rw [hy257];with_reducible exact H2_) | (have H2_ := (Option.bind_some _ _).symm.trans H;with_reducible exact H2_) | with_reducible exact H | (rw [hy257];exact H) | exact H
            have Ny257 := aM_ hy257
            clear hy257
            have H' := aM_ H
            clear H
            have hnb20 := NB240_241.out
            have hnc20 := NB241_240.out
            have hnb21 := NB240_242.out
            have hnc21 := NB242_240.out
            have hcz22_0 : wr.cell? ⟨gb240,0,none⟩ = some (.slice A0_0 l0_0.length c0_0) := (blk_cell BK240.out 0).trans rfl
            have hfz22_0 := blk_frozen BK240.out 0
            have p246 : 0 ≤ (x4_1 : Int) := of_decide_eq_true (by first | (with_reducible assumption) | assumption)
            have q246 : x4_1 < (l0_0.length : Int) := of_decide_eq_true (by first | (with_reducible assumption) | assumption)
            obtain ⟨ad246,A246_0,c246_0,e246,hx246_0,hl246_0,hi246_0⟩ := at_L4 HR0_0.out x4_1 p246 q246
            cases e246
            replace hx246_0 := cB_ HB.out hx246_0
            have HR246_0 := aM_ hi246_0
            have HC246_0 := aM_ hl246_0
            clear hi246_0 hl246_0
            replace p246 := eq_true p246
            replace q246 := eq_true q246
            try go_wp2
            have n0 := aM_ (Kd.S_drew HO_5.out)
            have n1 := aM_ (Kd.R_drew HO_243000.out)
            have n2 := aM_ (blk_drew BK240.out)
            have n3 := aM_ (blk_drew BK241.out)
            have n4 := aM_ (blk_drew BK242.out)
            have n5 := aM_ (below_drew1 HB.out)
            clear HO_5
            clear HO_243000
            clear BK240
            clear BK241
            clear BK242
            clear HB
            have HO_5 := n0
            have HO_243000 := n1
            have BK240 := n2
            have BK241 := n3
            have BK242 := n4
            have HB := n5
            clear n0 n1 n2 n3 n4 n5
            have p247 : 0 ≤ (x4_1 : Int) := of_decide_eq_true (by first | (with_reducible assumption) | assumption)
            have q247 : x4_1 < (l0_0.length : Int) := of_decide_eq_true (by first | (with_reducible assumption) | assumption)
            obtain ⟨ad247,A247_0,c247_0,e247,hx247_0,hl247_0,hi247_0⟩ := at_L4 HR0_0.out x4_1 p247 q247
            have hw247_0 := hx247_0
            obtain rfl : ad246 = ad247 := (by injection e247)
            replace hx247_0 := cB_ HB.out hx247_0
            have HR247_0 := aM_ hi247_0
            have HC247_0 := aM_ hl247_0
            clear hi247_0 hl247_0
            replace p247 := eq_true p247
            replace q247 := eq_true q247
            have p248 : 0 ≤ (x6_2 : Int) := of_decide_eq_true (by first | (with_reducible assumption) | assumption)
            have q248 : x6_2 < ((rd_L4 l0_0 x4_1).length : Int) := of_decide_eq_true (by first | (with_reducible assumption) | assumption)
            obtain ⟨ad248,A248_1,c248_1,e248,hx248_0,hx248_1,hl248_1,hi248_1⟩ := at_T43 HR247_0.out x6_2 p248 q248
            have hw248_1 := hx248_1
            have hw248_0 := hx248_0
            cases e248
            replace hx248_0 := cB_ HB.out hx248_0
            replace hx248_1 := cB_ HB.out hx248_1
            have HR248_1 := aM_ hi248_1
            have HC248_1 := aM_ hl248_1
            clear hi248_1 hl248_1
            replace p248 := eq_true p248
            replace q248 := eq_true q248
            have p252 : 0 ≤ (x4_1 : Int) := of_decide_eq_true (by first | (with_reducible assumption) | assumption)
            have q252 : x4_1 < (l0_0.length : Int) := of_decide_eq_true (by first | (with_reducible assumption) | assumption)
            obtain ⟨ad252,A252_0,c252_0,e252,hx252_0,hl252_0,hi252_0⟩ := at_L4 HR0_0.out x4_1 p252 q252
            have hw252_0 := hx252_0
            obtain rfl : ad246 = ad252 := (by injection e252)
            replace hx252_0 := cB_ HB.out hx252_0
            have HR252_0 := aM_ hi252_0
            have HC252_0 := aM_ hl252_0
            clear hi252_0 hl252_0
            replace p252 := eq_true p252
            replace q252 := eq_true q252
            have ea_ := Option.some.inj (hx247_0.symm.trans hx252_0)
            injection ea_ with ea_ en_ ec_
            subst ea_
            subst ec_
            clear en_
            have p253 : 0 ≤ (x6_2 : Int) := of_decide_eq_true (by first | (with_reducible assumption) | assumption)
            have q253 : x6_2 < ((rd_L4 l0_0 x4_1).length : Int) := of_decide_eq_true (by first | (with_reducible assumption) | assumption)
            obtain ⟨ad253,A253_1,c253_1,e253,hx253_0,hx253_1,hl253_1,hi253_1⟩ := at_T43 HR252_0.out x6_2 p253 q253
            have hw253_1 := hx253_1
            have hw253_0 := hx253_0
            cases e253
            replace hx253_0 := cB_ HB.out hx253_0
            replace hx253_1 := cB_ HB.out hx253_1
            have HR253_1 := aM_ hi253_1
            have HC253_1 := aM_ hl253_1
            clear hi253_1 hl253_1
            have ea_ := Option.some.inj (hx248_1.symm.trans hx253_1)
            injection ea_ with ea_ en_ ec_
            subst ea_
            subst ec_
            clear en_
            replace p253 := eq_true p253
            replace q253 := eq_true q253
            refine start_ (n := 25) (S := fun w' => w'.cell? ⟨gb240,0,none⟩ = some (.slice (some ad246) l0_0.length c0_0) ∧ w'.cell? (ad246.add (x4_1).toNat) = some (.slice (some ad248) (rd_L4 l0_0 x4_1).length c247_0) ∧ w'.cell? (ad248.add ((x6_2).toNat * 2)) = some (.int .i64 ((rd_T43 (rd_L4 l0_0 x4_1) x6_2).f0)) ∧ w'.cell? ⟨(ad248.add ((x6_2).toNat * 2)).block,(ad248.add ((x6_2).toNat * 2)).off + 1,none⟩ = some (.slice A248_1 ((rd_T43 (rd_L4 l0_0 x4_1) x6_2).f1).length c248_1) ∧ w'.cell? (ad246.add (x4_1).toNat) = some (.slice (some ad248) (rd_L4 l0_0 x4_1).length c247_0) ∧ w'.cell? (ad248.add ((x6_2).toNat * 2)) = some (.int .i64 ((rd_T43 (rd_L4 l0_0 x4_1) x6_2).f0)) ∧ w'.cell? ⟨(ad248.add ((x6_2).toNat * 2)).block,(ad248.add ((x6_2).toNat * 2)).off + 1,none⟩ = some (.slice A248_1 ((rd_T43 (rd_L4 l0_0 x4_1) x6_2).f1).length c248_1)) (ds := []) (mk_ 25 0) (by kernel_rfl) rfl rfl ⟨(blk_cell BK240.out 0).trans rfl,(cB_ HB.out hw247_0 :),(cB_ HB.out hw248_0 :),(cB_ HB.out hw248_1 :),(cB_ HB.out hw252_0 :),(cB_ HB.out hw253_0 :),(cB_ HB.out hw253_1 :)⟩ (fun hHeld => ?_);refine with_tabW spec_l6Copy.tab9 spec_l6Copy.bits9 (fun HT_ HW_ => ?_)
            generalize wr.drew = w23 at HO_5 HO_243000 BK240 BK241 BK242 HB HR247_0 HR248_1 HR252_0 HR253_1 hx247_0 hx248_0 hx248_1 hx252_0 hx253_0 hx253_1 hHeld ⊢
            refine pU_ 0 (some 26) (mk_ 25 1) ?_
            refine pU_ 1 (some 27) (mk_ 25 3) ?_
            refine pU_ 3 (some 29) (mk_ 25 11) ?_
            refine pU_ 6 (some 32) (mk_ 25 75) ?_
            refine pU_ 11 (some 37) (mk_ 25 2123) ?_
            refine pU_ 13 (some 39) (mk_ 25 10315) ?_
            refine pU_ 16 (some 42) (mk_ 25 75851) ?_
            refine tK7_ 2 (some 28) (mk_ 25 75855) ?_
            refine pU_ 4 (some 30) (mk_ 25 75871) ?_
            refine tK7_ 5 (some 31) (mk_ 25 75903) ?_
            refine pU_ 7 (some 33) (mk_ 25 76031) ?_
            refine pU_ 8 (some 34) (mk_ 25 76287) ?_
            refine tK7_ 9 (some 35) (mk_ 25 76799) ?_
            refine tK7_ 12 (some 38) (mk_ 25 80895) ?_
            refine pU_ 14 (some 40) (mk_ 25 97279) ?_
            refine tK7_ 15 (some 41) (mk_ 25 130047) ?_
            refine pU_ 17 (some 43) (mk_ 25 261119) ?_
            refine pU_ 18 (some 44) (mk_ 25 523263) ?_
            refine tK7_ 19 (some 45) (mk_ 25 1047551) ?_
            refine oN_ 10 (some 36) (mk_ 25 1048575) (fun K hK => ?_)
            refine Kd.R_lit_step (Kd.int .i64) _ 3 ?hg (N := 36) ?hd (xs := ([] : List Int)) (inner := []) (ok := fun _ => True) (okp := fun _ => True) ?hr ?hp (fun _ hk => hk) trivial (Below.refl _ _) (Nat.le_refl _) (by simp) ?_;(case hd => rfl);(case hg => rfl);(case hr => first | (go_simp;done) | (go_simp;rfl));(case hp => exact (Reps.none _ _))
            intro v250 w24 ho25 hb hg_ hnew_
            clear hg_ hnew_
            (first | rw [← Ny249.out] at ho25 | (simp only [Int.reduceToNat] at ho25;rw [← Ny249.out] at ho25))
            have n0 := aM_ (Kd.S_elder' (by (with_reducible repeat (first | apply Kd.S_alloc | apply Kd.S_drewN | apply Kd.S_drew));exact HO_5.out) (Kd.R_base ho25) hb)
            have n1 := aM_ (Kd.R_elder' (by (with_reducible repeat (first | apply rA_ | apply rN_ | apply rD_));exact HO_243000.out) (Kd.R_base ho25) hb)
            have n2 := aM_ (Kd.R_lower ho25 (below_size (gB_ HB.out)))
            have n3 := aM_ (nB_ BK240.out hb)
            have n4 := aM_ (nB_ BK241.out hb)
            have n5 := aM_ (nB_ BK242.out hb)
            have n6 := aM_ (sT_ HB.out hb)
            clear HO_5
            clear HO_243000
            clear BK240
            clear BK241
            clear BK242
            clear HB
            have HO_5 := n0
            have HO_243000 := n1
            have HO251 := n2
            have BK240 := n3
            have BK241 := n4
            have BK242 := n5
            have HB := n6
            clear n0 n1 n2 n3 n4 n5 n6
            clear hb ho25
            refine hK.out _ _ ⟨(blk_cell BK240.out 0).trans rfl,(cB_ HB.out hw247_0 :),(cB_ HB.out hw248_0 :),(cB_ HB.out hw248_1 :),(cB_ HB.out hw252_0 :),(cB_ HB.out hw253_0 :),(cB_ HB.out hw253_1 :)⟩ (fun hHeld => ?_)
            clear hK K
            refine norm_ (a' := ?_) ?_ ?_
            rotate_left
            ·show Act.put _ (some 36) _ = _
             simp only [pt_,pn_,sI_,s0_,s1_,i64_w,i32_w]
             rfl
            refine oN_ 20 (some 46) (mk_ 25 2097151) (fun K hK => ?_)
            refine Kd.R_append_rows_step (Kd.int .i64) (w0 := w) w.heap.size (by rfl) (.tmp 36) (.tmp 45) 31 3 (.int .i64 0) 8 rfl Try.underlying31 info3 rfl (by decide) (by omega) v250 y249 ((rd_T43 (rd_L4 l0_0 x4_1) x6_2).f1) _ _ _ (fun _ => True) (fun _ => False) rfl rfl ?aO ?aR (fun _ _ h => h) (fun _ h => h.elim) ?aF ?aB ?aS ?aL ?_
            (case aR => repeat (first | exact (Kd.C_below HR253_1.out HB.out) | (with_reducible refine Kd.C_alloc ?_ _) | (with_reducible refine Kd.C_drewN ?_ _) | (with_reducible refine Kd.C_drew ?_)))
            (case aB => exact (gB_ HB.out))
            (case aF => exact (fun _ _ => trivial))
            (case aO => exact (by (with_reducible repeat (first | apply rA_ | apply rN_ | apply rD_));exact HO251.out))
            (case aS => exact (below_size (gB_ HB.out)))
            (case aL => have := LMc18.out;omega)
            intro v255 w26 ho hb hg hat
            rw [← Ny254.out] at ho
            have n0 := aM_ (Kd.S_after (ok := (fun _ => True)) (by (with_reducible repeat (first | apply Kd.S_alloc | apply Kd.S_drewN | apply Kd.S_drew));exact HO_5.out) hg hat)
            have n1 := aM_ (Kd.R_after (ok := (fun k_ => some k_ ≠ (u5 : Value).ownBlock)) (by (with_reducible repeat (first | apply rA_ | apply rN_ | apply rD_));exact HO_243000.out) hg hat)
            have n2 := aM_ (blk_grown (g := gb240) (o := .cells #[.slice (some ad246) l0_0.length c0_0] 24 (0,0)) (by (with_reducible repeat (first | refine bN_ ?_ _ | refine bD_ ?_ | refine bA_ ?_ _));exact BK240.out) hg (Kd.R_ne HO251.out BK240.out (by decide)))
            have n3 := aM_ (blk_grown (g := gb241) (o := .cells #[.slice none 0 0] 24 (0,0)) (by (with_reducible repeat (first | refine bN_ ?_ _ | refine bD_ ?_ | refine bA_ ?_ _));exact BK241.out) hg (Kd.R_ne HO251.out BK241.out (by decide)))
            have n4 := aM_ (blk_grown (g := gb242) (o := .cells #[u2430] 24 (0,0)) (by (with_reducible repeat (first | refine bN_ ?_ _ | refine bD_ ?_ | refine bA_ ?_ _));exact BK242.out) hg (Kd.R_ne HO251.out BK242.out (by decide)))
            have n5 := aM_ (hb)
            have n6 := aM_ (ho)
            clear HO_5
            clear HO_243000
            clear BK240
            clear BK241
            clear BK242
            clear HB
            clear HO251
            have HO_5 := n0
            have HO_243000 := n1
            have BK240 := n2
            have BK241 := n3
            have BK242 := n4
            have HB := n5
            have HO256 := n6
            clear n0 n1 n2 n3 n4 n5 n6
            clear ho hb hg hat
            obtain ⟨Ao27,co27,eo27⟩ := Kd.R_slice HO256.out
            (first | subst eo27 | (injection eo27 with f1_ f2_ f3_;have f4_ := f1_.symm;have f5_ := f3_.symm;clear f1_ f2_ f3_;subst f4_;subst f5_))
            refine hK.out _ _ ⟨(blk_cell BK240.out 0).trans rfl,(cB_ HB.out hw247_0 :),(cB_ HB.out hw248_0 :),(cB_ HB.out hw248_1 :),(cB_ HB.out hw252_0 :),(cB_ HB.out hw253_0 :),(cB_ HB.out hw253_1 :)⟩ (fun hHeld => ?_)
            clear hK K
            refine norm_ (a' := ?_) ?_ ?_
            rotate_left
            ·show Act.put _ (some 46) _ = _
             simp only [pt_,pn_,sI_,s0_,s1_,i64_w,i32_w]
             rfl
            refine pU_ 21 (some 47) (mk_ 25 4194303) ?_
            refine oN_ 22 (some 48) (mk_ 25 8388607) (fun K hK => ?_)
            refine value_ (w1 := ?_) (v := ?_) (by rfl) rfl ?_ ?_
            rotate_left 2
            ·go_simp
             constructor
             ·rfl
             ·rfl
            refine hK.out _ _ ⟨(blk_cell (blk_alloc BK240.out _) 0).trans rfl,(World.cell?_alloc_lt _ _ _ (World.block_lt_of_cell? _ _ ((cB_ HB.out hw247_0 :)))).trans ((cB_ HB.out hw247_0 :)),(World.cell?_alloc_lt _ _ _ (World.block_lt_of_cell? _ _ ((cB_ HB.out hw248_0 :)))).trans ((cB_ HB.out hw248_0 :)),(World.cell?_alloc_lt _ _ _ (World.block_lt_of_cell? _ _ ((cB_ HB.out hw248_1 :)))).trans ((cB_ HB.out hw248_1 :)),(World.cell?_alloc_lt _ _ _ (World.block_lt_of_cell? _ _ ((cB_ HB.out hw252_0 :)))).trans ((cB_ HB.out hw252_0 :)),(World.cell?_alloc_lt _ _ _ (World.block_lt_of_cell? _ _ ((cB_ HB.out hw253_0 :)))).trans ((cB_ HB.out hw253_0 :)),(World.cell?_alloc_lt _ _ _ (World.block_lt_of_cell? _ _ ((cB_ HB.out hw253_1 :)))).trans ((cB_ HB.out hw253_1 :))⟩ (fun hHeld => ?_)
            clear hK K
            refine norm_ (a' := ?_) ?_ ?_
            rotate_left
            ·show Act.put _ (some 48) _ = _
             simp only [pt_,pn_,sI_,s0_,s1_,i64_w,i32_w]
             rfl
            refine oN_ 23 (some 49) (mk_ 25 16777215) (fun K hK => ?_)
            refine Kd.S_append_step k43 (w0 := w) w.heap.size (by rfl) (.tmp 26) (.tmp 48) 44 43 (.agg #[(.int .i64 0),(.slice none 0 0)]) 32 rfl Try.underlying44 info43 rfl (by decide) (by omega) u5 x5_2 (⟨(rd_T43 (rd_L4 l0_0 x4_1) x6_2).f0,y254⟩ : S43) [.int .i64 ((rd_T43 (rd_L4 l0_0 x4_1) x6_2).f0),.slice Ao27 y254.length co27] (fun _ => True) (fun k_ => some k_ = (.slice Ao27 y254.length co27 : Value).ownBlock) rfl rfl ?aP (fun k_ hk_ => ((Kd.R_mono (ok' := fun k_ => ((fun _ => True)) k_ ∧ some k_ ≠ (u5 : Value).ownBlock) (Kd.R_apart' (HO256.out) (Kd.S_typed HO_5.out) (by decide)) (fun k_ hk => ⟨trivial,hk.2⟩))).1 k_ hk_.symm) ?aF ?aO ?aB ?aS ?aL ?_
            (case aP => exact k43_mkM _ _ _ (⟨(rd_T43 (rd_L4 l0_0 x4_1) x6_2).f0,y254⟩ : S43) (Kd.R_mono (Kd.R_tight rfl (Kd.R_mono (ok' := fun k_ => ((fun _ => True)) k_ ∧ some k_ ≠ (u5 : Value).ownBlock) (Kd.R_apart' (HO256.out) (Kd.S_typed HO_5.out) (by decide)) (fun k_ hk => ⟨trivial,hk.2⟩))) (fun _ h_ => h_)))
            (case aB => exact (gB_ HB.out))
            (case aF => exact (fun _ _ => trivial))
            (case aO => exact (by (with_reducible repeat (first | apply Kd.S_alloc | apply Kd.S_drewN | apply Kd.S_drew));exact Kd.S_mono HO_5.out (fun k_ hk => ⟨trivial,fun e_ => hk.2 e_⟩)))
            (case aS => exact (below_size (gB_ HB.out)))
            (case aL => have := LMc19.out;omega)
            intro v258 w28 ho hb hg hat
            rw [← Ny257.out] at ho
            have n0 := aM_ (Kd.R_after (ok := (fun k_ => some k_ ≠ (.slice Ao27 y254.length co27 : Value).ownBlock)) (by (with_reducible repeat (first | apply rA_ | apply rN_ | apply rD_));exact Kd.R_mono HO_243000.out (fun _ hk => ⟨hk.2,hk.1⟩)) hg hat)
            have n1 := aM_ (blk_grown (g := gb240) (o := .cells #[.slice (some ad246) l0_0.length c0_0] 24 (0,0)) (by (with_reducible repeat (first | refine bN_ ?_ _ | refine bD_ ?_ | refine bA_ ?_ _));exact BK240.out) hg (Kd.S_ne HO_5.out BK240.out (by decide)))
            have n2 := aM_ (blk_grown (g := gb241) (o := .cells #[.slice none 0 0] 24 (0,0)) (by (with_reducible repeat (first | refine bN_ ?_ _ | refine bD_ ?_ | refine bA_ ?_ _));exact BK241.out) hg (Kd.S_ne HO_5.out BK241.out (by decide)))
            have n3 := aM_ (blk_grown (g := gb242) (o := .cells #[u2430] 24 (0,0)) (by (with_reducible repeat (first | refine bN_ ?_ _ | refine bD_ ?_ | refine bA_ ?_ _));exact BK242.out) hg (Kd.S_ne HO_5.out BK242.out (by decide)))
            have n4 := aM_ (hb)
            have n5 := aM_ (ho)
            clear HO_243000
            clear BK240
            clear BK241
            clear BK242
            clear HB
            clear HO_5
            clear HO256
            have HO_243000 := n0
            have BK240 := n1
            have BK241 := n2
            have BK242 := n3
            have HB := n4
            have HO259 := n5
            clear n0 n1 n2 n3 n4 n5
            clear ho hb hg hat
            refine hK.out _ _ ⟨(blk_cell BK240.out 0).trans rfl,(cB_ HB.out hw247_0 :),(cB_ HB.out hw248_0 :),(cB_ HB.out hw248_1 :),(cB_ HB.out hw252_0 :),(cB_ HB.out hw253_0 :),(cB_ HB.out hw253_1 :)⟩ (fun hHeld => ?_)
            clear hK K
            refine norm_ (a' := ?_) ?_ ?_
            rotate_left
            ·show Act.put _ (some 49) _ = _
             simp only [pt_,pn_,sI_,s0_,s1_,i64_w,i32_w]
             rfl
            refine pU_ 24 (some 5) (mk_ 25 33554431) ?_
            refine done_ (done_of HT_.out (by kernel_rfl)) ?_
            try go_wp2
            go_roundg k2
            case measure => have := HK1.out;have := HK2.out;omega
            case rel => exact ⟨(y257),(wrap64 (x6_2 + 1)),(by first | rfl | (simp;done) | (simp [*];done)),H',⟨by have := HK1.out;have := HK2.out;omega⟩,⟨by (with_reducible repeat (first | apply Kd.S_alloc | apply Kd.S_drewN | apply Kd.S_drew));exact HO259.out⟩,⟨by (with_reducible repeat (first | apply rA_ | apply rN_ | apply rD_));exact Kd.R_mono HO_243000.out (fun _ hk => hk.2)⟩,⟨rW_ BK240.out⟩,⟨rW_ BK241.out⟩,⟨rW_ BK242.out⟩,⟨gW_ HB.out⟩⟩
           ·rw [if_neg c19] at H
            exact absurd H (by simp)
          ·rw [if_neg c18] at H
           exact absurd H (by simp)
         ·rw [if_neg c17] at H
          exact absurd H (by simp)
        ·rw [if_neg c16] at H
         have c16b0 : decide (x6_2 < ((rd_L4 l0_0 x4_1).length : Int)) = false := decide_eq_false c16
         clear c16
         by_cases c29 : x2430_1.length < 5864062014805
         ·rw [if_pos c29] at H
          have LMc29 := aM_ c29
          clear c29
          obtain ⟨y260,hy260⟩ : ∃ y_ : List (List (S43)),y_ = (x2430_1 ++ [x5_2]) := ⟨_,rfl⟩
          replace H : (spec_l6Copy.l0 k2 (wrap64 (x4_1 + 1)) l0_0 y260) = some r := by first | (rw [hy260];with_reducible exact H) | (have H2_ := (Option.bind_some _ _).symm.trans H;rw [hy260];with_reducible exact H2_) | (have H2_ := (Option.bind_some _ _).symm.trans H;with_reducible exact H2_) | with_reducible exact H | (rw [hy260];exact H) | exact H
          have Ny260 := aM_ hy260
          clear hy260
          have H' := aM_ H
          clear H
          have hnb30 := NB240_241.out
          have hnc30 := NB241_240.out
          have hnb31 := NB240_242.out
          have hnc31 := NB242_240.out
          have hcz32_0 : wr.cell? ⟨gb240,0,none⟩ = some (.slice A0_0 l0_0.length c0_0) := (blk_cell BK240.out 0).trans rfl
          have hfz32_0 := blk_frozen BK240.out 0
          have p246 : 0 ≤ (x4_1 : Int) := of_decide_eq_true (by first | (with_reducible assumption) | assumption)
          have q246 : x4_1 < (l0_0.length : Int) := of_decide_eq_true (by first | (with_reducible assumption) | assumption)
          obtain ⟨ad246,A246_0,c246_0,e246,hx246_0,hl246_0,hi246_0⟩ := at_L4 HR0_0.out x4_1 p246 q246
          cases e246
          replace hx246_0 := cB_ HB.out hx246_0
          have HR246_0 := aM_ hi246_0
          have HC246_0 := aM_ hl246_0
          clear hi246_0 hl246_0
          replace p246 := eq_true p246
          replace q246 := eq_true q246
          have hnb33 := NB242_241.out
          have hnc33 := NB241_242.out
          have hcz34_0 : wr.cell? ⟨gb242,0,none⟩ = some (u2430) := (blk_cell BK242.out 0).trans rfl
          have hfz34_0 := blk_frozen BK242.out 0
          obtain ⟨Ao36,co36,eo36⟩ := Kd.S_slice HO_5.out
          subst eo36
          go_wp2_with (first | ((with_reducible refine gate_builtin (b := .append) (xs := #[.tmp 51,.tmp 53]) rfl ?_);at_builtin;refine Kd.S_append (sslice 43 k43) (w0 := w00) w00.heap.size rfl (.tmp 51) (.tmp 53) 22 44 (.slice none 0 0) 24 rfl Try.underlying22 info44 rfl (by decide) (by omega) u2430 x2430_1 x5_2 [.slice Ao36 x5_2.length co36] (fun _ => True) (fun k_ => w.heap.size ≤ k_) rfl rfl ?aP HF.out ?aF ?aO ?aB ?aS ?aL ?_;(case aP => exact ⟨_,rfl,Kd.S_lower (Kd.S_mono (Kd.S_bound HO_5.out) (fun _ hk => hk.2.1)) (below_size HBo.out)⟩);(case aB => exact (below_step HBo.out HB.out));(case aF => exact (fun _ _ => trivial));(case aO => exact (Kd.S_mono (Kd.S_old HSo.out HB.out) (fun _ hk => ⟨trivial,Nat.not_le.2 hk.2⟩)));(case aS => exact (below_size (below_step HBo.out HB.out)));(case aL => have := LMc29.out;omega);intro v261 w35 ho hb hg hat;rw [← Ny260.out] at ho;have n0 := aM_ (blk_grown (g := gb240) (o := .cells #[.slice (some ad246) l0_0.length c0_0] 24 (0,0)) (by (with_reducible repeat (first | refine bN_ ?_ _ | refine bD_ ?_ | refine bA_ ?_ _));exact BK240.out) hg (Kd.R_ne HO_243000.out BK240.out (by decide)));have n1 := aM_ (blk_grown (g := gb241) (o := .cells #[.slice none 0 0] 24 (0,0)) (by (with_reducible repeat (first | refine bN_ ?_ _ | refine bD_ ?_ | refine bA_ ?_ _));exact BK241.out) hg (Kd.R_ne HO_243000.out BK241.out (by decide)));have n2 := aM_ (blk_grown (g := gb242) (o := .cells #[u2430] 24 (0,0)) (by (with_reducible repeat (first | refine bN_ ?_ _ | refine bD_ ?_ | refine bA_ ?_ _));exact BK242.out) hg (Kd.R_ne HO_243000.out BK242.out (by decide)));have n3 := aM_ (hb);have n4 := aM_ (ho);clear BK240;clear BK241;clear BK242;clear HB;clear HO_243000;clear HO_5;have BK240 := n0;have BK241 := n1;have BK242 := n2;have HB := n3;have HO262 := n4;clear n0 n1 n2 n3 n4;clear ho hb hg hat;obtain ⟨Ao37,co37,eo37⟩ := Kd.S_slice HO262.out;subst eo37;have hcz38_0 : w35.cell? ⟨gb242,0,none⟩ = some (u2430) := (blk_cell BK242.out 0).trans rfl;have hfz38_0 := blk_frozen BK242.out 0))
          go_roundg k2
          case measure => have := HK1.out;have := HK2.out;omega
          case rel => exact ⟨(wrap64 (x4_1 + 1)),(y260),(.slice Ao37 y260.length co37),(by first | rfl | (simp;done) | (simp [*];done)),H',⟨by have := HK1.out;have := HK2.out;omega⟩,⟨by (with_reducible repeat (first | apply Kd.S_alloc | apply Kd.S_drewN | apply Kd.S_drew));exact Kd.S_mono (Kd.S_far (p := ⟨gb242,0,none⟩) (Kd.S_types HO262.out BK242.out (by decide)) (fun _ hk => hk.2) (.slice Ao37 y260.length co37)) (fun _ hk => trivial)⟩,⟨by (with_reducible repeat (first | refine bN_ ?_ _ | refine bD_ ?_ | refine bA_ ?_ _));refine blk_far ?_ NB240_242.out _;(with_reducible repeat (first | refine bN_ ?_ _ | refine bD_ ?_ | refine bA_ ?_ _));exact BK240.out⟩,⟨by (with_reducible repeat (first | refine bN_ ?_ _ | refine bD_ ?_ | refine bA_ ?_ _));refine blk_far ?_ NB241_242.out _;(with_reducible repeat (first | refine bN_ ?_ _ | refine bD_ ?_ | refine bA_ ?_ _));exact BK241.out⟩,⟨by (with_reducible repeat (first | refine bN_ ?_ _ | refine bD_ ?_ | refine bA_ ?_ _));refine blk_put (cs := #[u2430]) ?_ 0 _ rfl;(with_reducible repeat (first | refine bN_ ?_ _ | refine bD_ ?_ | refine bA_ ?_ _));exact BK242.out⟩,⟨gW_ HB.out⟩⟩
         ·rw [if_neg c29] at H
          exact absurd H (by simp)
       ·rw [if_neg c15] at H
        exact absurd H (by simp)
      ·rw [if_neg c14] at H
       exact absurd H (by simp)
   ·rw [if_neg c8] at H
    have c8b0 : decide (x4_1 < (l0_0.length : Int)) = false := decide_eq_false c8
    clear c8
    obtain rfl := Option.some.inj H
    have hnb39 := NB240_241.out
    have hnc39 := NB241_240.out
    have hnb40 := NB240_242.out
    have hnc40 := NB242_240.out
    have hcz41_0 : wr.cell? ⟨gb240,0,none⟩ = some (.slice A0_0 l0_0.length c0_0) := (blk_cell BK240.out 0).trans rfl
    have hfz41_0 := blk_frozen BK240.out 0
    have hnb42 := NB242_241.out
    have hnc42 := NB241_242.out
    have hcz43_0 : wr.cell? ⟨gb242,0,none⟩ = some (u2430) := (blk_cell BK242.out 0).trans rfl
    have hfz43_0 := blk_frozen BK242.out 0
    obtain ⟨Ao44,co44,eo44⟩ := Kd.S_slice HO_243000.out
    subst eo44
    have hcz45_0 : wr.cell? ⟨gb241,0,none⟩ = some (.slice none 0 0) := (blk_cell BK241.out 0).trans rfl
    have hfz45_0 := blk_frozen BK241.out 0
    go_wp2
    refine bodyPost_ret (results_cell_row rfl _ _ gb241 24 #[.slice Ao44 x2430_1.length co44] (0,0) _ rfl (by (with_reducible repeat (first | refine bN_ ?_ _ | refine bD_ ?_ | refine bA_ ?_ _));refine blk_put (cs := #[.slice none 0 0]) ?_ 0 _ rfl;exact rW_ BK241.out) Try.underlying24 rfl (by kernel_rfl)) rfl ?_
    exact ⟨_,fR_,by (with_reducible repeat (first | apply Kd.S_alloc | apply Kd.S_drewN | apply Kd.S_drew));exact Kd.S_mono (Kd.S_far (p := ⟨gb241,0,none⟩) (Kd.S_types HO_243000.out BK241.out (by decide)) (fun _ hk => hk.2) (.slice Ao44 x2430_1.length co44)) (fun _ hk => trivial),gB_ HB.out⟩
end Go.Proofs.Ythbcnakmnbilhaa.PFnLoad
