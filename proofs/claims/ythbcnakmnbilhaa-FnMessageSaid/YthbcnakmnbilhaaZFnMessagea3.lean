/- A part of the proof that the law FnMessage holds for every input: the words, functions and walks that its row needs, without a condition of their own. -/
import Derived.Test.YthbcnakmnbilhaaZFnMessagea2
import Derived.Test.YthbcnakmnbilhaaZFnMessages
namespace Go.Proofs.Ythbcnakmnbilhaa.PFnMessage
open Go.RowKit Go.Proofs.YthbcnakmnbilhaaW.PrintWords Go.Proofs.YthbcnakmnbilhaaW.PrintLast Go.Proofs.YthbcnakmnbilhaaW.PrintMore Go.Proofs.Ythbcnakmnbilhaa.SepMark
attribute [local go_sem] max2_int min2_int max_two min_two max_three min_three max_four min_four   -- for this text's walks alone
set_option linter.unusedVariables false
set_option linter.unusedSimpArgs false
mutual
def impl_copyMemory.l0 : Nat → List (List (S43)) → Int → Int → List (List (S43)) → Option ((List (List (S43))))
  | 0, _, _, _, _ => none
  | k + 1, x11, x12, x13, x132000 => if x13 < x12 then (if 0 ≤ x13 then (if x13 < (x11.length : Int) then (impl_copyMemory.l1 k (([] : List (S43))) x11 x12 x13 (rd_L3 x11 x13) ((rd_L3 x11 x13).length : Int) 0 x132000) else (none)) else (none)) else (some x132000)
def impl_copyMemory.l1 : Nat → List (S43) → List (List (S43)) → Int → Int → List (S43) → Int → Int → List (List (S43)) → Option ((List (List (S43))))
  | 0, _, _, _, _, _, _, _, _ => none
  | k + 1, x6, x11, x12, x13, x18, x19, x20, x132000 => if x20 < x19 then (if 0 ≤ x20 then (if x20 < (x18.length : Int) then ((impl_copyInts.f ((rd_T43 x18 x20).f1)).bind fun t138 => (if x6.length < 4398046511104 then (impl_copyMemory.l1 k (x6 ++ [(⟨(rd_T43 x18 x20).f0, t138⟩ : S43)]) x11 x12 x13 x18 x19 (wrap64 (x20 + 1)) x132000) else (none))) else (none)) else (none)) else (if x132000.length < 5864062014805 then (impl_copyMemory.l0 k x11 x12 (wrap64 (x13 + 1)) (x132000 ++ [x6])) else (none))
end
def impl_copyMemory.f (k : Nat) (l0_0 : List (List (S43))) : Option ((List (List (S43)))) := impl_copyMemory.l0 k l0_0 (l0_0.length : Int) 0 ([] : List (List (S43)))
def impl_copyMemory.T9 : Bool × List (List Nat × List Nat) := (true, [([], []), ([], []), ([1], [1]), ([], []), ([3], [3]), ([4], [4]), ([2, 5], [2, 5]), ([6], [6]), ([0, 7, 5], [0, 7]), ([8, 8, 0, 1, 2, 3, 4, 5, 6, 7, 8], [0, 8])])
def impl_copyMemory.B9 : List Nat := [0, 0, 2, 0, 8, 24, 62, 126, 255, 511]
theorem impl_copyMemory.tab9 : rtab .any (opsOf Try.f55 9) = impl_copyMemory.T9 := by kernel_rfl
theorem impl_copyMemory.bits9 : waitsOk impl_copyMemory.T9.2 impl_copyMemory.B9 = true := by kernel_rfl
set_option maxHeartbeats 8000000 in
set_option maxRecDepth 100000 in
theorem impl_copyMemory.calls (k : Nat) (A0_0 : Option Addr) (c0_0 : Nat) (l0_0 : List (List (S43))) (r : List (List (S43))) (w00 : World) (hr0_0 : Kd.C (Kd.slice 43 k43) w00 A0_0 l0_0.length l0_0) (hc0_0 : l0_0.length ≤ c0_0) (h : impl_copyMemory.f k l0_0 = some r) :
  Calls Try.prog 55 #[.agg #[.slice A0_0 l0_0.length c0_0]] w00 fun e w' => ∃ v0_ : Value, e = .returned (.agg #[v0_]) ∧ Kd.S (sslice 43 k43) 44 w' w00.heap.size (fun _ => True) v0_ r ∧ Below w00.heap.size w00 w' := by
 have hu24 := Try.underlying24
 have hu43 := Try.underlying43
 have HR0_0 := aM_ hr0_0
 have HC0_0 := aM_ hc0_0
 clear hr0_0 hc0_0
 have HB := aM_ (Below.refl w00.heap.size w00)
 have H : (impl_copyMemory.l0 k l0_0 (l0_0.length : Int) 0 ([] : List (List (S43)))) = some r := h
 clear h
 have H' := aM_ H
 clear H
 go_enter Try.func55, Try.ntmps55
 go_wp2_with (first | ((with_reducible refine gate_dst (N := 1) rfl ?_); refine bX_ 1 (cs := #[.slice A0_0 l0_0.length c0_0]) (t := 24) ?_; intro gb129 hg w2 hbox hb; have n0 := aM_ (sT_ HB.out hb); have n1 := aM_ (hbox); have n2 := aM_ ((by rw [hg]; exact (below_size (gB_ HB.out)) : w00.heap.size ≤ gb129)); have n3 := aM_ ((by rw [hg]; exact (below_size (gB_ HB.out)) : w00.heap.size ≤ gb129)); clear HB; have HB := n0; have BK129 := n1; have GW129 := n2; have GE129 := n3; clear n0 n1 n2 n3; clear hb hbox hg) | ((with_reducible refine gate_dst (N := 2) rfl ?_); refine bX_ 2 (cs := #[.slice none 0 0]) (t := 24) ?_; intro gb130 hg w3 hbox hb; have n0 := aM_ (nB_ BK129.out hb); have n1 := aM_ (sT_ HB.out hb); have n2 := aM_ (hbox); have n3 := aM_ ((by rw [hg]; exact (below_size (gB_ HB.out)) : w00.heap.size ≤ gb130)); have n4 := aM_ ((by rw [hg]; exact (below_size (gB_ HB.out)) : w00.heap.size ≤ gb130)); have n5 := aM_ (nL_ hg BK129.out); have n6 := aM_ (nG_ hg BK129.out); clear BK129; clear HB; have BK129 := n0; have HB := n1; have BK130 := n2; have GW130 := n3; have GE130 := n4; have NB129_130 := n5; have NB130_129 := n6; clear n0 n1 n2 n3 n4 n5 n6; clear hb hbox hg) | ((with_reducible refine gate_dst (N := 3) rfl ?_); refine bX_ 3 (cs := #[.slice none 0 0]) (t := 24) ?_; intro gb131 hg w4 hbox hb; have n0 := aM_ (nB_ BK129.out hb); have n1 := aM_ (nB_ BK130.out hb); have n2 := aM_ (sT_ HB.out hb); have n3 := aM_ (hbox); have n4 := aM_ ((by rw [hg]; exact (below_size (gB_ HB.out)) : w00.heap.size ≤ gb131)); have n5 := aM_ ((by rw [hg]; exact (below_size (gB_ HB.out)) : w00.heap.size ≤ gb131)); have n6 := aM_ (nL_ hg BK129.out); have n7 := aM_ (nG_ hg BK129.out); have n8 := aM_ (nL_ hg BK130.out); have n9 := aM_ (nG_ hg BK130.out); clear BK129; clear BK130; clear HB; have BK129 := n0; have BK130 := n1; have HB := n2; have BK131 := n3; have GW131 := n4; have GE131 := n5; have NB129_131 := n6; have NB131_129 := n7; have NB130_131 := n8; have NB131_130 := n9; clear n0 n1 n2 n3 n4 n5 n6 n7 n8 n9; clear hb hbox hg; have hnb5 := NB131_129.out; have hnc5 := NB129_131.out; have hnb6 := NB131_130.out; have hnc6 := NB130_131.out; have hcz7_0 : w4.cell? ⟨gb131, 0, none⟩ = some (.slice none 0 0) := (blk_cell BK131.out 0).trans rfl; have hfz7_0 := blk_frozen BK131.out 0; have hnb8 := NB129_130.out; have hnc8 := NB130_129.out; have hcz9_0 : w4.cell? ⟨gb129, 0, none⟩ = some (.slice A0_0 l0_0.length c0_0) := (blk_cell BK129.out 0).trans rfl; have hfz9_0 := blk_frozen BK129.out 0))
 go_loopg [13] k (fun kq v13 w' => ∃ (x13_1 : Int) (x1320_1 : List (List (S43))) (u1320 : Value), v13 = .int .i64 x13_1 ∧ Aside0 (impl_copyMemory.l0 kq l0_0 (l0_0.length : Int) x13_1 x1320_1 = some r) ∧ Aside0 (kq ≤ k) ∧ Aside0 (Kd.S (sslice 43 k43) 44 w' w00.heap.size (fun _ => True) u1320 x1320_1) ∧ Aside0 (w'.heap[gb129]? = some (.cells #[(.slice A0_0 l0_0.length c0_0)] 24 (0, 0))) ∧ Aside0 (w'.heap[gb130]? = some (.cells #[(.slice none 0 0)] 24 (0, 0))) ∧ Aside0 (w'.heap[gb131]? = some (.cells #[u1320] 24 (0, 0))) ∧ Aside0 (Below w00.heap.size w00 w'))
 case atStart => exact ⟨(0), (([] : List (List (S43)))), (.slice none 0 0), (by first | rfl | (simp; done) | (simp [*]; done)), H', ⟨Nat.le_refl _⟩, ⟨by first | exact Kd.R_nil _ _ _ _ _ | exact Kd.N_nil _ _ _ _ _ | exact Kd.V_nil _ _ _ _ _ | exact Kd.Q_nil _ _ _ _ _ | exact Kd.S_nil _ _ _ _ _⟩, ⟨by (with_reducible repeat (first | refine bN_ ?_ _ | refine bD_ ?_ | refine bA_ ?_ _)); refine blk_far ?_ NB129_131.out _; (with_reducible repeat (first | refine bN_ ?_ _ | refine bD_ ?_ | refine bA_ ?_ _)); exact BK129.out⟩, ⟨by (with_reducible repeat (first | refine bN_ ?_ _ | refine bD_ ?_ | refine bA_ ?_ _)); refine blk_far ?_ NB130_131.out _; (with_reducible repeat (first | refine bN_ ?_ _ | refine bD_ ?_ | refine bA_ ?_ _)); exact BK130.out⟩, ⟨by (with_reducible repeat (first | refine bN_ ?_ _ | refine bD_ ?_ | refine bA_ ?_ _)); refine blk_put (cs := #[.slice none 0 0]) ?_ 0 _ rfl; (with_reducible repeat (first | refine bN_ ?_ _ | refine bD_ ?_ | refine bA_ ?_ _)); exact BK131.out⟩, ⟨gW_ HB.out⟩⟩
 case round =>
  clear H'
  try clear p2
  try clear c5
  try clear c6
  try clear c8
  try clear hcz7_0 hfz7_0
  try clear hcz9_0 hfz9_0
  obtain ⟨x13_1, x1320_1, u1320, rfl, HA, HK1, HO_132000, BK129, BK130, BK131, HB⟩ := hrel
  cases gk with
  | zero => exact absurd HA.out (by simp [impl_copyMemory.l0])
  | succ k1 =>
   have H := HA.out
   clear HA
   simp only [impl_copyMemory.l0] at H
   by_cases c10 : x13_1 < (l0_0.length : Int)
   ·rw [if_pos c10] at H
    have c10b0 : decide (x13_1 < (l0_0.length : Int)) = true := decide_eq_true c10
    clear c10
    by_cases c11 : 0 ≤ x13_1
    ·rw [if_pos c11] at H
     have c11b0 : decide (0 ≤ x13_1) = true := decide_eq_true c11
     clear c11
     by_cases c12 : x13_1 < (l0_0.length : Int)
     ·rw [if_pos c12] at H
      have c12b0 : decide (x13_1 < (l0_0.length : Int)) = true := decide_eq_true c12
      clear c12
      obtain ⟨w, hw⟩ : ∃ x, x = wr := ⟨wr, rfl⟩
      have HBo : Aside0 (Below w00.heap.size w00 w) := ⟨by rw [hw]; exact HB.out⟩
      have HSo : Aside0 (Kd.S (sslice 43 k43) 44 w w00.heap.size (fun _ => True) u1320 x1320_1) := ⟨by rw [hw]; exact HO_132000.out⟩
      have HF : Aside0 (∀ k, w.heap.size ≤ k → True ∧ some k ≠ (u1320 : Value).ownBlock) := ⟨fun k hk => ⟨trivial, fun e => Nat.not_le.2 (Kd.S_lt HSo.out k e.symm) hk⟩⟩
      replace HB : Aside0 (Below w.heap.size w wr) := ⟨by rw [hw]; exact Below.refl _ _⟩
      replace HR0_0 := aM_ (Kd.C_below HR0_0.out HBo.out)
      replace HO_132000 := aM_ (S_Rs HO_132000.out)
      clear hw
      obtain ⟨y133, hy133⟩ : ∃ y_ : List (S43), y_ = (([] : List (S43))) := ⟨_, rfl⟩
      replace H : (impl_copyMemory.l1 k1 y133 l0_0 (l0_0.length : Int) x13_1 (rd_L3 l0_0 x13_1) ((rd_L3 l0_0 x13_1).length : Int) 0 x1320_1) = some r := by first | (rw [hy133]; with_reducible exact H) | (have H2_ := (Option.bind_some _ _).symm.trans H; rw [hy133]; with_reducible exact H2_) | (have H2_ := (Option.bind_some _ _).symm.trans H; with_reducible exact H2_) | with_reducible exact H | (rw [hy133]; exact H) | exact H
      have Ny133 := aM_ hy133
      clear hy133
      have H' := aM_ H
      clear H
      have p132 : 0 ≤ (x13_1 : Int) := of_decide_eq_true (by first | (with_reducible assumption) | assumption)
      have q132 : x13_1 < (l0_0.length : Int) := of_decide_eq_true (by first | (with_reducible assumption) | assumption)
      obtain ⟨ad132, A132_0, c132_0, e132, hx132_0, hl132_0, hi132_0⟩ := at_L3 HR0_0.out x13_1 p132 q132
      cases e132
      replace hx132_0 := cB_ HB.out hx132_0
      have HR132_0 := aM_ hi132_0
      have HC132_0 := aM_ hl132_0
      clear hi132_0 hl132_0
      replace p132 := eq_true p132
      replace q132 := eq_true q132
      go_wp2_with (first | ((with_reducible refine gate_dst (N := 17) rfl ?_); refine Kd.S_lit k43 _ 43 ?hg (N := 17) ?hd (xs := ([] : List (S43))) (inner := []) (ok := fun _ => True) (okp := fun _ => True) ?hr ?hp (fun _ hk => hk) trivial (Below.refl _ _) (Nat.le_refl _) (by simp) ?_; (case hd => rfl); (case hg => rfl); (case hr => first | (go_simp; done) | (go_simp; rfl)); (case hp => exact (Reps.none _ _)); intro v134 w13 ho14 hb hg_ hnew_; clear hg_ hnew_; (first | rw [← Ny133.out] at ho14 | (simp only [Int.reduceToNat] at ho14; rw [← Ny133.out] at ho14)); have n0 := aM_ (Kd.R_elder' (by (with_reducible repeat (first | apply rA_ | apply rN_ | apply rD_)); exact HO_132000.out) (Kd.S_base ho14) hb); have n1 := aM_ (Kd.S_lower ho14 (below_size (gB_ HB.out))); have n2 := aM_ (nB_ BK129.out hb); have n3 := aM_ (nB_ BK130.out hb); have n4 := aM_ (nB_ BK131.out hb); have n5 := aM_ (sT_ HB.out hb); clear HO_132000; clear BK129; clear BK130; clear BK131; clear HB; have HO_132000 := n0; have HO135 := n1; have BK129 := n2; have BK130 := n3; have BK131 := n4; have HB := n5; clear n0 n1 n2 n3 n4 n5; clear hb ho14))
      go_loopg [6, 20] k1 (fun kq v6 v20 w' => ∃ (x6_2 : List (S43)) (x20_2 : Int), v20 = .int .i64 x20_2 ∧ Aside0 (impl_copyMemory.l1 kq x6_2 l0_0 (l0_0.length : Int) x13_1 (rd_L3 l0_0 x13_1) ((rd_L3 l0_0 x13_1).length : Int) x20_2 x1320_1 = some r) ∧ Aside0 (kq ≤ k1) ∧ Aside0 (Kd.S k43 43 w' w.heap.size (fun _ => True) v6 x6_2) ∧ Aside0 (Kd.R (Kd.slice 43 k43) 44 w' w00.heap.size (fun k_ => some k_ ≠ (v6 : Value).ownBlock) u1320 x1320_1) ∧ Aside0 (w'.heap[gb129]? = some (.cells #[(.slice (some ad132) l0_0.length c0_0)] 24 (0, 0))) ∧ Aside0 (w'.heap[gb130]? = some (.cells #[(.slice none 0 0)] 24 (0, 0))) ∧ Aside0 (w'.heap[gb131]? = some (.cells #[u1320] 24 (0, 0))) ∧ Aside0 (Below w.heap.size w w'))
      case atStart => exact ⟨(y133), (0), (by first | rfl | (simp; done) | (simp [*]; done)), H', ⟨Nat.le_refl _⟩, ⟨by (with_reducible repeat (first | apply Kd.S_alloc | apply Kd.S_drewN | apply Kd.S_drew)); exact HO135.out⟩, ⟨by (with_reducible repeat (first | apply rA_ | apply rN_ | apply rD_)); exact Kd.R_mono HO_132000.out (fun _ hk => hk.2)⟩, ⟨rW_ BK129.out⟩, ⟨rW_ BK130.out⟩, ⟨rW_ BK131.out⟩, ⟨gW_ HB.out⟩⟩
      case round =>
       clear H'
       try clear c1
       try clear p1
       try clear q1
       try clear hx1
       try clear p2
       try clear c5
       try clear c6
       try clear c8
       try clear c10
       try clear c10b0
       try clear c11
       try clear c11b0
       try clear c12
       try clear c12b0
       try clear c13
       try clear p13
       try clear q13
       try clear hx13
       try clear hcz7_0 hfz7_0
       try clear hcz9_0 hfz9_0
       try clear hx132_0
       try clear p132
       try clear p2
       try clear q132
       obtain ⟨x6_2, x20_2, rfl, HA, HK2, HO_6, HO_132000, BK129, BK130, BK131, HB⟩ := hrel
       cases gk with
       | zero => exact absurd HA.out (by simp [impl_copyMemory.l1])
       | succ k2 =>
        have H := HA.out
        clear HA
        simp only [impl_copyMemory.l1] at H
        by_cases c15 : x20_2 < ((rd_L3 l0_0 x13_1).length : Int)
        ·rw [if_pos c15] at H
         have c15b0 : decide (x20_2 < ((rd_L3 l0_0 x13_1).length : Int)) = true := decide_eq_true c15
         clear c15
         by_cases c16 : 0 ≤ x20_2
         ·rw [if_pos c16] at H
          have c16b0 : decide (0 ≤ x20_2) = true := decide_eq_true c16
          clear c16
          by_cases c17 : x20_2 < ((rd_L3 l0_0 x13_1).length : Int)
          ·rw [if_pos c17] at H
           have c17b0 : decide (x20_2 < ((rd_L3 l0_0 x13_1).length : Int)) = true := decide_eq_true c17
           clear c17
           replace H := Option.bind_eq_some_iff.mp H
           obtain ⟨t138, A180, H⟩ := H
           replace H : (if x6_2.length < 4398046511104 then (impl_copyMemory.l1 k2 (x6_2 ++ [(⟨(rd_T43 (rd_L3 l0_0 x13_1) x20_2).f0, t138⟩ : S43)]) l0_0 (l0_0.length : Int) x13_1 (rd_L3 l0_0 x13_1) ((rd_L3 l0_0 x13_1).length : Int) (wrap64 (x20_2 + 1)) x1320_1) else (none)) = some r := H
           have A18 := aM_ A180
           clear A180
           by_cases c19 : x6_2.length < 4398046511104
           ·rw [if_pos c19] at H
            have LMc19 := aM_ c19
            clear c19
            obtain ⟨y141, hy141⟩ : ∃ y_ : List (S43), y_ = (x6_2 ++ [(⟨(rd_T43 (rd_L3 l0_0 x13_1) x20_2).f0, t138⟩ : S43)]) := ⟨_, rfl⟩
            replace H : (impl_copyMemory.l1 k2 y141 l0_0 (l0_0.length : Int) x13_1 (rd_L3 l0_0 x13_1) ((rd_L3 l0_0 x13_1).length : Int) (wrap64 (x20_2 + 1)) x1320_1) = some r := by first | (rw [hy141]; with_reducible exact H) | (have H2_ := (Option.bind_some _ _).symm.trans H; rw [hy141]; with_reducible exact H2_) | (have H2_ := (Option.bind_some _ _).symm.trans H; with_reducible exact H2_) | with_reducible exact H | (rw [hy141]; exact H) | exact H
            have Ny141 := aM_ hy141
            clear hy141
            have H' := aM_ H
            clear H
            have p136 : 0 ≤ (x20_2 : Int) := of_decide_eq_true (by first | (with_reducible assumption) | assumption)
            have q136 : x20_2 < ((rd_L3 l0_0 x13_1).length : Int) := of_decide_eq_true (by first | (with_reducible assumption) | assumption)
            obtain ⟨ad136, A136_1, c136_1, e136, hx136_0, hx136_1, hl136_1, hi136_1⟩ := at_T43 HR132_0.out x20_2 p136 q136
            cases e136
            replace hx136_0 := cB_ HB.out hx136_0
            replace hx136_1 := cB_ HB.out hx136_1
            have HR136_1 := aM_ hi136_1
            have HC136_1 := aM_ hl136_1
            clear hi136_1 hl136_1
            replace p136 := eq_true p136
            replace q136 := eq_true q136
            try go_wp2_with (first | ((with_reducible refine gate_dst (N := 8) rfl ?_); refine bX_ 8 (cs := #[.int .i64 0, .slice none 0 0]) (t := 43) ?_; intro gb137 hg w20 hbox hb; have n0 := aM_ (Kd.S_below (Kd.S_elderB (by (with_reducible repeat (first | apply Kd.S_alloc | apply Kd.S_drewN | apply Kd.S_drew)); exact HO_6.out) gb137 (Nat.le_of_eq hg.symm)) hb); have n1 := aM_ (Kd.R_below (Kd.R_elderB (by (with_reducible repeat (first | apply rA_ | apply rN_ | apply rD_)); exact HO_132000.out) gb137 (Nat.le_of_eq hg.symm)) hb); have n2 := aM_ (nB_ BK129.out hb); have n3 := aM_ (nB_ BK130.out hb); have n4 := aM_ (nB_ BK131.out hb); have n5 := aM_ (sT_ HB.out hb); have n6 := aM_ (hbox); have n7 := aM_ (sZ_ hg HB.out); have n8 := aM_ (sZ_ hg HB.out); have n9 := aM_ (nL_ hg BK129.out); have n10 := aM_ (nG_ hg BK129.out); have n11 := aM_ (nL_ hg BK130.out); have n12 := aM_ (nG_ hg BK130.out); have n13 := aM_ (nL_ hg BK131.out); have n14 := aM_ (nG_ hg BK131.out); clear HO_6; clear HO_132000; clear BK129; clear BK130; clear BK131; clear HB; have HO_6 := n0; have HO_132000 := n1; have BK129 := n2; have BK130 := n3; have BK131 := n4; have HB := n5; have BK137 := n6; have GW137 := n7; have GE137 := n8; have NB129_137 := n9; have NB137_129 := n10; have NB130_137 := n11; have NB137_130 := n12; have NB131_137 := n13; have NB137_131 := n14; clear n0 n1 n2 n3 n4 n5 n6 n7 n8 n9 n10 n11 n12 n13 n14; clear hb hbox hg; have hnb21 := NB137_129.out; have hnc21 := NB129_137.out; have hnb22 := NB137_130.out; have hnc22 := NB130_137.out; have hnb23 := NB137_131.out; have hnc23 := NB131_137.out; obtain ⟨hcz24_0, hcz24_1, hfz24_0, hfz24_1⟩ := bR2_ BK137.out))
            have n0 : Aside0 (Kd.S k43 43 ((w20.setCell ⟨gb137, 0, none⟩ (.int .i64 ((rd_T43 (rd_L3 l0_0 x13_1) x20_2).f0))).setCell ⟨gb137, 1, none⟩ (.slice A136_1 ((rd_T43 (rd_L3 l0_0 x13_1) x20_2).f1).length c136_1)) w.heap.size (fun k_ => k_ ≠ gb137) u6 x6_2) := ⟨by (with_reducible repeat (first | apply Kd.S_alloc | apply Kd.S_drewN | apply Kd.S_drew)); exact Kd.S_mono (Kd.S_far (p := ⟨gb137, 1, none⟩) (Kd.S_far (p := ⟨gb137, 0, none⟩) (Kd.S_mono HO_6.out (fun k_ hk => (⟨hk, hk.2⟩ : _ ∧ k_ ≠ gb137))) (fun _ hk => hk.2) (.int .i64 ((rd_T43 (rd_L3 l0_0 x13_1) x20_2).f0))) (fun _ hk => hk.2) (.slice A136_1 ((rd_T43 (rd_L3 l0_0 x13_1) x20_2).f1).length c136_1)) (fun _ hk => hk.1.2)⟩
            have n1 : Aside0 (Kd.R (Kd.slice 43 k43) 44 ((w20.setCell ⟨gb137, 0, none⟩ (.int .i64 ((rd_T43 (rd_L3 l0_0 x13_1) x20_2).f0))).setCell ⟨gb137, 1, none⟩ (.slice A136_1 ((rd_T43 (rd_L3 l0_0 x13_1) x20_2).f1).length c136_1)) w00.heap.size (fun k_ => some k_ ≠ (u6 : Value).ownBlock ∧ k_ ≠ gb137) u1320 x1320_1) := ⟨by (with_reducible repeat (first | apply rA_ | apply rN_ | apply rD_)); exact Kd.R_mono (Kd.R_far (p := ⟨gb137, 1, none⟩) (Kd.R_far (p := ⟨gb137, 0, none⟩) (Kd.R_mono HO_132000.out (fun k_ hk => (⟨hk, hk.2⟩ : _ ∧ k_ ≠ gb137))) (fun _ hk => hk.2) (.int .i64 ((rd_T43 (rd_L3 l0_0 x13_1) x20_2).f0))) (fun _ hk => hk.2) (.slice A136_1 ((rd_T43 (rd_L3 l0_0 x13_1) x20_2).f1).length c136_1)) (fun _ hk => ⟨hk.1.1, hk.1.2⟩)⟩
            have n2 : Aside0 (((w20.setCell ⟨gb137, 0, none⟩ (.int .i64 ((rd_T43 (rd_L3 l0_0 x13_1) x20_2).f0))).setCell ⟨gb137, 1, none⟩ (.slice A136_1 ((rd_T43 (rd_L3 l0_0 x13_1) x20_2).f1).length c136_1)).heap[gb129]? = some (.cells #[.slice (some ad132) l0_0.length c0_0] 24 (0, 0))) := ⟨by (with_reducible repeat (first | refine bN_ ?_ _ | refine bD_ ?_ | refine bA_ ?_ _)); refine blk_far ?_ NB129_137.out _; (with_reducible repeat (first | refine bN_ ?_ _ | refine bD_ ?_ | refine bA_ ?_ _)); refine blk_far ?_ NB129_137.out _; (with_reducible repeat (first | refine bN_ ?_ _ | refine bD_ ?_ | refine bA_ ?_ _)); exact BK129.out⟩
            have n3 : Aside0 (((w20.setCell ⟨gb137, 0, none⟩ (.int .i64 ((rd_T43 (rd_L3 l0_0 x13_1) x20_2).f0))).setCell ⟨gb137, 1, none⟩ (.slice A136_1 ((rd_T43 (rd_L3 l0_0 x13_1) x20_2).f1).length c136_1)).heap[gb130]? = some (.cells #[.slice none 0 0] 24 (0, 0))) := ⟨by (with_reducible repeat (first | refine bN_ ?_ _ | refine bD_ ?_ | refine bA_ ?_ _)); refine blk_far ?_ NB130_137.out _; (with_reducible repeat (first | refine bN_ ?_ _ | refine bD_ ?_ | refine bA_ ?_ _)); refine blk_far ?_ NB130_137.out _; (with_reducible repeat (first | refine bN_ ?_ _ | refine bD_ ?_ | refine bA_ ?_ _)); exact BK130.out⟩
            have n4 : Aside0 (((w20.setCell ⟨gb137, 0, none⟩ (.int .i64 ((rd_T43 (rd_L3 l0_0 x13_1) x20_2).f0))).setCell ⟨gb137, 1, none⟩ (.slice A136_1 ((rd_T43 (rd_L3 l0_0 x13_1) x20_2).f1).length c136_1)).heap[gb131]? = some (.cells #[u1320] 24 (0, 0))) := ⟨by (with_reducible repeat (first | refine bN_ ?_ _ | refine bD_ ?_ | refine bA_ ?_ _)); refine blk_far ?_ NB131_137.out _; (with_reducible repeat (first | refine bN_ ?_ _ | refine bD_ ?_ | refine bA_ ?_ _)); refine blk_far ?_ NB131_137.out _; (with_reducible repeat (first | refine bN_ ?_ _ | refine bD_ ?_ | refine bA_ ?_ _)); exact BK131.out⟩
            have n5 : Aside0 (((w20.setCell ⟨gb137, 0, none⟩ (.int .i64 ((rd_T43 (rd_L3 l0_0 x13_1) x20_2).f0))).setCell ⟨gb137, 1, none⟩ (.slice A136_1 ((rd_T43 (rd_L3 l0_0 x13_1) x20_2).f1).length c136_1)).heap[gb137]? = some (.cells #[.int .i64 ((rd_T43 (rd_L3 l0_0 x13_1) x20_2).f0), .slice A136_1 ((rd_T43 (rd_L3 l0_0 x13_1) x20_2).f1).length c136_1] 43 (0, 0))) := ⟨by (with_reducible repeat (first | refine bN_ ?_ _ | refine bD_ ?_ | refine bA_ ?_ _)); refine blk_put (cs := #[.int .i64 ((rd_T43 (rd_L3 l0_0 x13_1) x20_2).f0), .slice none 0 0]) ?_ 1 _ rfl; refine blk_put (cs := #[.int .i64 0, .slice none 0 0]) ?_ 0 _ rfl; (with_reducible repeat (first | refine bN_ ?_ _ | refine bD_ ?_ | refine bA_ ?_ _)); exact BK137.out⟩
            have n6 : Aside0 (Below w.heap.size w ((w20.setCell ⟨gb137, 0, none⟩ (.int .i64 ((rd_T43 (rd_L3 l0_0 x13_1) x20_2).f0))).setCell ⟨gb137, 1, none⟩ (.slice A136_1 ((rd_T43 (rd_L3 l0_0 x13_1) x20_2).f1).length c136_1))) := ⟨gW_ HB.out⟩
            (try clear HO_6)
            (try clear HO_132000)
            (try clear BK129)
            (try clear BK130)
            (try clear BK131)
            (try clear BK137)
            (try clear HB)
            generalize ((w20.setCell ⟨gb137, 0, none⟩ (.int .i64 ((rd_T43 (rd_L3 l0_0 x13_1) x20_2).f0))).setCell ⟨gb137, 1, none⟩ (.slice A136_1 ((rd_T43 (rd_L3 l0_0 x13_1) x20_2).f1).length c136_1)) = w25 at n0 n1 n2 n3 n4 n5 n6 ⊢
            have HO_6 := n0
            have HO_132000 := n1
            have BK129 := n2
            have BK130 := n3
            have BK131 := n4
            have BK137 := n5
            have HB := n6
            clear n0 n1 n2 n3 n4 n5 n6
            have n0 := aM_ (Kd.S_drew HO_6.out)
            have n1 := aM_ (Kd.R_drew HO_132000.out)
            have n2 := aM_ (blk_drew BK129.out)
            have n3 := aM_ (blk_drew BK130.out)
            have n4 := aM_ (blk_drew BK131.out)
            have n5 := aM_ (blk_drew BK137.out)
            have n6 := aM_ (below_drew1 HB.out)
            clear HO_6
            clear HO_132000
            clear BK129
            clear BK130
            clear BK131
            clear BK137
            clear HB
            have HO_6 := n0
            have HO_132000 := n1
            have BK129 := n2
            have BK130 := n3
            have BK131 := n4
            have BK137 := n5
            have HB := n6
            clear n0 n1 n2 n3 n4 n5 n6
            refine start_ (n := 10) (S := fun w' => w'.cell? ⟨gb137, 0, none⟩ = some (.int .i64 ((rd_T43 (rd_L3 l0_0 x13_1) x20_2).f0)) ∧ w'.cell? ⟨gb137, 1, none⟩ = some (.slice A136_1 ((rd_T43 (rd_L3 l0_0 x13_1) x20_2).f1).length c136_1)) (ds := []) (mk_ 10 0) (by kernel_rfl) rfl rfl (bC2_ BK137.out) (fun hHeld => ?_); refine with_tabW impl_copyMemory.tab9 impl_copyMemory.bits9 (fun HT_ HW_ => ?_)
            generalize w25.drew = w26 at HO_6 HO_132000 BK129 BK130 BK131 BK137 HB hHeld ⊢
            refine pU_ 0 (some 24) (mk_ 10 1) ?_
            refine pU_ 1 (some 25) (mk_ 10 3) ?_
            refine pU_ 3 (some 27) (mk_ 10 11) ?_
            refine tK2_ 2 (some 26) (mk_ 10 15) ?_
            refine tK2_ 4 (some 28) (mk_ 10 31) ?_
            refine oN_ 5 (some 29) (mk_ 10 63) (fun K hK => ?_)
            refine gO_ Try.func58 #[.slice A136_1 ((rd_T43 (rd_L3 l0_0 x13_1) x20_2).f1).length c136_1] ?_
            with_reducible refine (impl_copyInts.calls _ _ ((rd_T43 (rd_L3 l0_0 x13_1) x20_2).f1) t138 _ ?side1 ?side2 A18.out).mono ?_
            (case side1 => exact cS_ (Kd.C_below HR136_1.out HB.out))
            (case side2 => exact HC136_1.out)
            rintro e w27 ⟨v139, rfl, ho0, hb⟩
            refine ⟨_, rfl, ?_⟩
            have n0 := aM_ (Kd.S_elder' (by (with_reducible repeat (first | apply Kd.S_alloc | apply Kd.S_drewN | apply Kd.S_drew)); exact HO_6.out) (Kd.R_base ho0) hb)
            have n1 := aM_ (Kd.R_elder' (by (with_reducible repeat (first | apply rA_ | apply rN_ | apply rD_)); exact HO_132000.out) (Kd.R_base ho0) hb)
            have n2 := aM_ (Kd.R_lower ho0 (below_size (gB_ HB.out)))
            have n3 := aM_ (nB_ BK129.out hb)
            have n4 := aM_ (nB_ BK130.out hb)
            have n5 := aM_ (nB_ BK131.out hb)
            have n6 := aM_ (nB_ BK137.out hb)
            have n7 := aM_ (sT_ HB.out hb)
            clear HO_6
            clear HO_132000
            clear BK129
            clear BK130
            clear BK131
            clear BK137
            clear HB
            have HO_6 := n0
            have HO_132000 := n1
            have HO140 := n2
            have BK129 := n3
            have BK130 := n4
            have BK131 := n5
            have BK137 := n6
            have HB := n7
            clear n0 n1 n2 n3 n4 n5 n6 n7
            (try clear hb)
            (try clear hb2)
            (try clear hk)
            (try clear hi)
            (try clear ho0)
            obtain ⟨Ao28, co28, eo28⟩ := Kd.R_slice HO140.out
            (first | subst eo28 | (injection eo28 with f1_ f2_ f3_; have f4_ := f1_.symm; have f5_ := f3_.symm; clear f1_ f2_ f3_; subst f4_; subst f5_))
            refine hK.out _ _ (bC2_ BK137.out) (fun hHeld => ?_)
            clear hK K
            refine norm_ (a' := ?_) ?_ ?_
            rotate_left
            ·show Act.put _ (some 29) _ = _
             simp only [pt_, pn_, sI_, s0_, s1_, i64_w, i32_w]
             rfl
            refine pU_ 6 (some 30) (mk_ 10 127) ?_
            refine oN_ 7 (some 31) (mk_ 10 255) (fun K hK => ?_)
            refine value_ (w1 := ?_) (v := ?_) (by rfl) rfl ?_ ?_
            rotate_left 2
            ·go_simp
             constructor
             ·rfl
             ·rfl
            refine hK.out _ _ ⟨(blk_cell (blk_alloc BK137.out _) 0).trans rfl, (blk_cell (blk_alloc BK137.out _) 1).trans rfl⟩ (fun hHeld => ?_)
            clear hK K
            refine norm_ (a' := ?_) ?_ ?_
            rotate_left
            ·show Act.put _ (some 31) _ = _
             simp only [pt_, pn_, sI_, s0_, s1_, i64_w, i32_w]
             rfl
            refine oN_ 8 (some 32) (mk_ 10 511) (fun K hK => ?_)
            refine Kd.S_append_step k43 (w0 := w) w.heap.size (by rfl) (.tmp 24) (.tmp 31) 44 43 (.agg #[(.int .i64 0), (.slice none 0 0)]) 32 rfl Try.underlying44 info43 rfl (by decide) (by omega) u6 x6_2 (⟨(rd_T43 (rd_L3 l0_0 x13_1) x20_2).f0, t138⟩ : S43) [.int .i64 ((rd_T43 (rd_L3 l0_0 x13_1) x20_2).f0), .slice Ao28 t138.length co28] (fun k_ => k_ ≠ gb137) (fun k_ => some k_ = (.slice Ao28 t138.length co28 : Value).ownBlock) rfl rfl ?aP (fun k_ hk_ => ((Kd.R_mono (ok' := fun k_ => ((fun k_ => k_ ≠ gb137)) k_ ∧ some k_ ≠ (u6 : Value).ownBlock) (Kd.R_types (Kd.R_apart' (HO140.out) (Kd.S_typed HO_6.out) (by decide)) BK137.out (by decide)) (fun k_ hk => ⟨hk.2, hk.1.2⟩))).1 k_ hk_.symm) ?aF ?aO ?aB ?aS ?aL ?_
            (case aP => exact k43_mkM _ _ _ (⟨(rd_T43 (rd_L3 l0_0 x13_1) x20_2).f0, t138⟩ : S43) (Kd.R_mono (Kd.R_tight rfl (Kd.R_mono (ok' := fun k_ => ((fun k_ => k_ ≠ gb137)) k_ ∧ some k_ ≠ (u6 : Value).ownBlock) (Kd.R_types (Kd.R_apart' (HO140.out) (Kd.S_typed HO_6.out) (by decide)) BK137.out (by decide)) (fun k_ hk => ⟨hk.2, hk.1.2⟩))) (fun _ h_ => h_)))
            (case aB => exact (gB_ HB.out))
            (case aF => exact (fun k_ hk => Kd.freshB (g := gb137) (o := .cells #[.int .i64 ((rd_T43 (rd_L3 l0_0 x13_1) x20_2).f0), .slice A136_1 ((rd_T43 (rd_L3 l0_0 x13_1) x20_2).f1).length c136_1] 43 (0, 0)) (by (with_reducible repeat (first | refine bN_ ?_ _ | refine bD_ ?_ | refine bA_ ?_ _)); exact BK137.out) k_ hk))
            (case aO => exact (by (with_reducible repeat (first | apply Kd.S_alloc | apply Kd.S_drewN | apply Kd.S_drew)); exact Kd.S_mono HO_6.out (fun k_ hk => ⟨hk.1, fun e_ => hk.2 e_⟩)))
            (case aS => exact (below_size (gB_ HB.out)))
            (case aL => have := LMc19.out; omega)
            intro v142 w29 ho hb hg hat
            rw [← Ny141.out] at ho
            have n0 := aM_ (Kd.R_after (ok := (fun k_ => some k_ ≠ (.slice Ao28 t138.length co28 : Value).ownBlock ∧ k_ ≠ gb137)) (by (with_reducible repeat (first | apply rA_ | apply rN_ | apply rD_)); exact Kd.R_mono HO_132000.out (fun _ hk => ⟨⟨hk.2, hk.1.2⟩, hk.1.1⟩)) hg hat)
            have n1 := aM_ (blk_grown (g := gb129) (o := .cells #[.slice (some ad132) l0_0.length c0_0] 24 (0, 0)) (by (with_reducible repeat (first | refine bN_ ?_ _ | refine bD_ ?_ | refine bA_ ?_ _)); exact BK129.out) hg (Kd.S_ne HO_6.out BK129.out (by decide)))
            have n2 := aM_ (blk_grown (g := gb130) (o := .cells #[.slice none 0 0] 24 (0, 0)) (by (with_reducible repeat (first | refine bN_ ?_ _ | refine bD_ ?_ | refine bA_ ?_ _)); exact BK130.out) hg (Kd.S_ne HO_6.out BK130.out (by decide)))
            have n3 := aM_ (blk_grown (g := gb131) (o := .cells #[u1320] 24 (0, 0)) (by (with_reducible repeat (first | refine bN_ ?_ _ | refine bD_ ?_ | refine bA_ ?_ _)); exact BK131.out) hg (Kd.S_ne HO_6.out BK131.out (by decide)))
            have n4 := aM_ (blk_grown (g := gb137) (o := .cells #[.int .i64 ((rd_T43 (rd_L3 l0_0 x13_1) x20_2).f0), .slice A136_1 ((rd_T43 (rd_L3 l0_0 x13_1) x20_2).f1).length c136_1] 43 (0, 0)) (by (with_reducible repeat (first | refine bN_ ?_ _ | refine bD_ ?_ | refine bA_ ?_ _)); exact BK137.out) hg (Kd.S_away HO_6.out (fun _ hk => hk.1)))
            have n5 := aM_ (hb)
            have n6 := aM_ (ho)
            clear HO_132000
            clear BK129
            clear BK130
            clear BK131
            clear BK137
            clear HB
            clear HO_6
            clear HO140
            have HO_132000 := n0
            have BK129 := n1
            have BK130 := n2
            have BK131 := n3
            have BK137 := n4
            have HB := n5
            have HO143 := n6
            clear n0 n1 n2 n3 n4 n5 n6
            clear ho hb hg hat
            refine hK.out _ _ (bC2_ BK137.out) (fun hHeld => ?_)
            clear hK K
            refine norm_ (a' := ?_) ?_ ?_
            rotate_left
            ·show Act.put _ (some 32) _ = _
             simp only [pt_, pn_, sI_, s0_, s1_, i64_w, i32_w]
             rfl
            refine pU_ 9 (some 6) (mk_ 10 1023) ?_
            refine done_ (done_of HT_.out (by kernel_rfl)) ?_
            try go_wp2
            go_roundg k2
            case measure => have := HK1.out; have := HK2.out; omega
            case rel => exact ⟨(y141), (wrap64 (x20_2 + 1)), (by first | rfl | (simp; done) | (simp [*]; done)), H', ⟨by have := HK1.out; have := HK2.out; omega⟩, ⟨by (with_reducible repeat (first | apply Kd.S_alloc | apply Kd.S_drewN | apply Kd.S_drew)); exact Kd.S_mono HO143.out (fun _ hk => trivial)⟩, ⟨by (with_reducible repeat (first | apply rA_ | apply rN_ | apply rD_)); exact Kd.R_mono HO_132000.out (fun _ hk => hk.2)⟩, ⟨rW_ BK129.out⟩, ⟨rW_ BK130.out⟩, ⟨rW_ BK131.out⟩, ⟨gW_ HB.out⟩⟩
           ·rw [if_neg c19] at H
            exact absurd H (by simp)
          ·rw [if_neg c17] at H
           exact absurd H (by simp)
         ·rw [if_neg c16] at H
          exact absurd H (by simp)
        ·rw [if_neg c15] at H
         have c15b0 : decide (x20_2 < ((rd_L3 l0_0 x13_1).length : Int)) = false := decide_eq_false c15
         clear c15
         by_cases c30 : x1320_1.length < 5864062014805
         ·rw [if_pos c30] at H
          have LMc30 := aM_ c30
          clear c30
          obtain ⟨y144, hy144⟩ : ∃ y_ : List (List (S43)), y_ = (x1320_1 ++ [x6_2]) := ⟨_, rfl⟩
          replace H : (impl_copyMemory.l0 k2 l0_0 (l0_0.length : Int) (wrap64 (x13_1 + 1)) y144) = some r := by first | (rw [hy144]; with_reducible exact H) | (have H2_ := (Option.bind_some _ _).symm.trans H; rw [hy144]; with_reducible exact H2_) | (have H2_ := (Option.bind_some _ _).symm.trans H; with_reducible exact H2_) | with_reducible exact H | (rw [hy144]; exact H) | exact H
          have Ny144 := aM_ hy144
          clear hy144
          have H' := aM_ H
          clear H
          have hnb31 := NB131_129.out
          have hnc31 := NB129_131.out
          have hnb32 := NB131_130.out
          have hnc32 := NB130_131.out
          have hcz33_0 : wr.cell? ⟨gb131, 0, none⟩ = some (u1320) := (blk_cell BK131.out 0).trans rfl
          have hfz33_0 := blk_frozen BK131.out 0
          obtain ⟨Ao35, co35, eo35⟩ := Kd.S_slice HO_6.out
          subst eo35
          go_wp2_with (first | ((with_reducible refine gate_builtin (b := .append) (xs := #[.tmp 35, .tmp 37]) rfl ?_); at_builtin; refine Kd.S_append (sslice 43 k43) (w0 := w00) w00.heap.size rfl (.tmp 35) (.tmp 37) 22 44 (.slice none 0 0) 24 rfl Try.underlying22 info44 rfl (by decide) (by omega) u1320 x1320_1 x6_2 [.slice Ao35 x6_2.length co35] (fun _ => True) (fun k_ => w.heap.size ≤ k_) rfl rfl ?aP HF.out ?aF ?aO ?aB ?aS ?aL ?_; (case aP => exact ⟨_, rfl, Kd.S_lower (Kd.S_mono (Kd.S_bound HO_6.out) (fun _ hk => hk.2.1)) (below_size HBo.out)⟩); (case aB => exact (below_step HBo.out HB.out)); (case aF => exact (fun _ _ => trivial)); (case aO => exact (Kd.S_mono (Kd.S_old HSo.out HB.out) (fun _ hk => ⟨trivial, Nat.not_le.2 hk.2⟩))); (case aS => exact (below_size (below_step HBo.out HB.out))); (case aL => have := LMc30.out; omega); intro v145 w34 ho hb hg hat; rw [← Ny144.out] at ho; have n0 := aM_ (blk_grown (g := gb129) (o := .cells #[.slice (some ad132) l0_0.length c0_0] 24 (0, 0)) (by (with_reducible repeat (first | refine bN_ ?_ _ | refine bD_ ?_ | refine bA_ ?_ _)); exact BK129.out) hg (Kd.R_ne HO_132000.out BK129.out (by decide))); have n1 := aM_ (blk_grown (g := gb130) (o := .cells #[.slice none 0 0] 24 (0, 0)) (by (with_reducible repeat (first | refine bN_ ?_ _ | refine bD_ ?_ | refine bA_ ?_ _)); exact BK130.out) hg (Kd.R_ne HO_132000.out BK130.out (by decide))); have n2 := aM_ (blk_grown (g := gb131) (o := .cells #[u1320] 24 (0, 0)) (by (with_reducible repeat (first | refine bN_ ?_ _ | refine bD_ ?_ | refine bA_ ?_ _)); exact BK131.out) hg (Kd.R_ne HO_132000.out BK131.out (by decide))); have n3 := aM_ (hb); have n4 := aM_ (ho); clear BK129; clear BK130; clear BK131; clear HB; clear HO_132000; clear HO_6; have BK129 := n0; have BK130 := n1; have BK131 := n2; have HB := n3; have HO146 := n4; clear n0 n1 n2 n3 n4; clear ho hb hg hat; obtain ⟨Ao36, co36, eo36⟩ := Kd.S_slice HO146.out; subst eo36; have hcz37_0 : w34.cell? ⟨gb131, 0, none⟩ = some (u1320) := (blk_cell BK131.out 0).trans rfl; have hfz37_0 := blk_frozen BK131.out 0))
          go_roundg k2
          case measure => have := HK1.out; have := HK2.out; omega
          case rel => exact ⟨(wrap64 (x13_1 + 1)), (y144), (.slice Ao36 y144.length co36), (by first | rfl | (simp; done) | (simp [*]; done)), H', ⟨by have := HK1.out; have := HK2.out; omega⟩, ⟨by (with_reducible repeat (first | apply Kd.S_alloc | apply Kd.S_drewN | apply Kd.S_drew)); exact Kd.S_mono (Kd.S_far (p := ⟨gb131, 0, none⟩) (Kd.S_types HO146.out BK131.out (by decide)) (fun _ hk => hk.2) (.slice Ao36 y144.length co36)) (fun _ hk => trivial)⟩, ⟨by (with_reducible repeat (first | refine bN_ ?_ _ | refine bD_ ?_ | refine bA_ ?_ _)); refine blk_far ?_ NB129_131.out _; (with_reducible repeat (first | refine bN_ ?_ _ | refine bD_ ?_ | refine bA_ ?_ _)); exact BK129.out⟩, ⟨by (with_reducible repeat (first | refine bN_ ?_ _ | refine bD_ ?_ | refine bA_ ?_ _)); refine blk_far ?_ NB130_131.out _; (with_reducible repeat (first | refine bN_ ?_ _ | refine bD_ ?_ | refine bA_ ?_ _)); exact BK130.out⟩, ⟨by (with_reducible repeat (first | refine bN_ ?_ _ | refine bD_ ?_ | refine bA_ ?_ _)); refine blk_put (cs := #[u1320]) ?_ 0 _ rfl; (with_reducible repeat (first | refine bN_ ?_ _ | refine bD_ ?_ | refine bA_ ?_ _)); exact BK131.out⟩, ⟨gW_ HB.out⟩⟩
         ·rw [if_neg c30] at H
          exact absurd H (by simp)
     ·rw [if_neg c12] at H
      exact absurd H (by simp)
    ·rw [if_neg c11] at H
     exact absurd H (by simp)
   ·rw [if_neg c10] at H
    have c10b0 : decide (x13_1 < (l0_0.length : Int)) = false := decide_eq_false c10
    clear c10
    obtain rfl := Option.some.inj H
    have hnb38 := NB131_129.out
    have hnc38 := NB129_131.out
    have hnb39 := NB131_130.out
    have hnc39 := NB130_131.out
    have hcz40_0 : wr.cell? ⟨gb131, 0, none⟩ = some (u1320) := (blk_cell BK131.out 0).trans rfl
    have hfz40_0 := blk_frozen BK131.out 0
    obtain ⟨Ao41, co41, eo41⟩ := Kd.S_slice HO_132000.out
    subst eo41
    have hnb42 := NB130_129.out
    have hnc42 := NB129_130.out
    have hcz43_0 : wr.cell? ⟨gb130, 0, none⟩ = some (.slice none 0 0) := (blk_cell BK130.out 0).trans rfl
    have hfz43_0 := blk_frozen BK130.out 0
    go_wp2
    refine bodyPost_ret (results_cell_row rfl _ _ gb130 24 #[.slice Ao41 x1320_1.length co41] (0, 0) _ rfl (by (with_reducible repeat (first | refine bN_ ?_ _ | refine bD_ ?_ | refine bA_ ?_ _)); refine blk_put (cs := #[.slice none 0 0]) ?_ 0 _ rfl; exact rW_ BK130.out) Try.underlying24 rfl (by kernel_rfl)) rfl ?_
    exact ⟨_, fR_, by (with_reducible repeat (first | apply Kd.S_alloc | apply Kd.S_drewN | apply Kd.S_drew)); exact Kd.S_mono (Kd.S_far (p := ⟨gb130, 0, none⟩) (Kd.S_types HO_132000.out BK130.out (by decide)) (fun _ hk => hk.2) (.slice Ao41 x1320_1.length co41)) (fun _ hk => trivial), gB_ HB.out⟩
def impl_isCell.f (a0 : Int) : Option (Bool) := (impl_within.f a0 0 23).bind fun t147 => (some t147)
set_option maxHeartbeats 8000000 in
set_option maxRecDepth 100000 in
theorem impl_isCell.calls (a0 : Int) (r : Bool) (w : World) (h : impl_isCell.f a0 = some r) :
  Calls Try.prog 56 #[.int .i64 a0] w fun e w' => e = .returned (.bool r) ∧ Drawn0 w w' := by
 have H : ((impl_within.f a0 0 23).bind fun t147 => (some t147)) = some r := h
 clear h
 replace H := Option.bind_eq_some_iff.mp H
 obtain ⟨t147, A20, H⟩ := H
 replace H : (some t147) = some r := H
 have A2 := aM_ A20
 clear A20
 obtain rfl := Option.some.inj H
 go_enter Try.func56, Try.ntmps56
 go_wp2_with (first | ((with_reducible refine gate_callee (f := 68) rfl ?_); refine gL_ (some 4) Try.func68 #[.int .i64 a0, .int .i64 0, .int .i64 23] ?_; (with_reducible refine (impl_within.calls a0 0 23 t147 _ A2.out).mono ?_); rintro e w' ⟨rfl, ⟨nd, rfl⟩⟩; refine ⟨_, rfl, ?_⟩))
 go_ret
 exact ⟨by first | rfl | (simp; done) | (simp [*]; done), by repeat (first | exact Drawn0.refl _ | apply Drawn0.step)⟩
def impl_Memory_hasRoom.f (l0_0 : List (List (S43))) (a1 : Int) : Option (Bool) := if 0 ≤ a1 then (if a1 < (l0_0.length : Int) then (some (decide (((rd_L3 l0_0 a1).length : Int) < 4000))) else (none)) else (none)
set_option maxHeartbeats 8000000 in
set_option maxRecDepth 100000 in
theorem impl_Memory_hasRoom.calls (g : Nat) (A0_0 : Option Addr) (c0_0 : Nat) (l0_0 : List (List (S43))) (a1 : Int) (r : Bool) (w : World) (hbk0 : w.heap[g]? = some (.cells #[.slice A0_0 l0_0.length c0_0] 24 (0, 0))) (hr0_0 : Kd.C (Kd.slice 43 k43) w A0_0 l0_0.length l0_0) (hc0_0 : l0_0.length ≤ c0_0) (h : impl_Memory_hasRoom.f l0_0 a1 = some r) :
  Calls Try.prog 57 #[.pointer (some ⟨g, 0, none⟩), .int .i64 a1] w fun e w' => e = .returned (.bool r) ∧ Below w.heap.size w w' := by
 have BK148 := aM_ hbk0
 clear hbk0
 have hu24 := Try.underlying24
 have HR0_0 := aM_ hr0_0
 have HC0_0 := aM_ hc0_0
 clear hr0_0 hc0_0
 have HB := aM_ (Below.refl w.heap.size w)
 have H : (if 0 ≤ a1 then (if a1 < (l0_0.length : Int) then (some (decide (((rd_L3 l0_0 a1).length : Int) < 4000))) else (none)) else (none)) = some r := h
 clear h
 by_cases c3 : 0 ≤ a1
 ·rw [if_pos c3] at H
  have c3b0 : decide (0 ≤ a1) = true := decide_eq_true c3
  clear c3
  by_cases c4 : a1 < (l0_0.length : Int)
  ·rw [if_pos c4] at H
   have c4b0 : decide (a1 < (l0_0.length : Int)) = true := decide_eq_true c4
   clear c4
   obtain rfl := Option.some.inj H
   go_enter Try.func57, Try.ntmps57
   have hcz6_0 : w.cell? ⟨g, 0, none⟩ = some (.slice A0_0 l0_0.length c0_0) := (blk_cell BK148.out 0).trans rfl
   have hfz6_0 := blk_frozen BK148.out 0
   have p149 : 0 ≤ (a1 : Int) := of_decide_eq_true (by first | (with_reducible assumption) | assumption)
   have q149 : a1 < (l0_0.length : Int) := of_decide_eq_true (by first | (with_reducible assumption) | assumption)
   obtain ⟨ad149, A149_0, c149_0, e149, hx149_0, hl149_0, hi149_0⟩ := at_L3 HR0_0.out a1 p149 q149
   cases e149
   replace hx149_0 := cB_ HB.out hx149_0
   have HR149_0 := aM_ hi149_0
   have HC149_0 := aM_ hl149_0
   clear hi149_0 hl149_0
   replace p149 := eq_true p149
   replace q149 := eq_true q149
   go_wp2
   go_ret
   exact fI_ HB.out
  ·rw [if_neg c4] at H
   exact absurd H (by simp)
 ·rw [if_neg c3] at H
  exact absurd H (by simp)
def impl_Memory_store.f (l0_0 : List (List (S43))) (l1 : List Int) (a2 : Int) (a3 : Int) (a4 : Bool) : Option (List (List (S43)) × List Int) := (impl_copyInts.f l1).bind fun t151 => (if 0 ≤ a2 then (if a2 < (l0_0.length : Int) then (if a2 < (t151.length : Int) then ((some (t151.set (a2 : Int).toNat ((rd_L3 l0_0 a2).length : Int) : List Int)).bind fun y155 => (if 24 ≤ 35184372088832 then (if a2 < ((List.replicate 24 0).length : Int) then (if a4 = true then ((impl_copyInts.f y155).bind fun t161 => (if (rd_L3 l0_0 a2).length < 4398046511104 then (some (l0_0.set (a2 : Int).toNat (rd_L3 l0_0 a2 ++ [(⟨a3, t161⟩ : S43)]), y155)) else (none))) else (if (rd_L3 l0_0 a2).length < 4398046511104 then (some (l0_0.set (a2 : Int).toNat (rd_L3 l0_0 a2 ++ [(⟨a3, (List.replicate 24 0).set (a2 : Int).toNat (rd y155 a2)⟩ : S43)]), y155)) else (none))) else (none)) else (none))) else (none)) else (none)) else (none))
set_option maxHeartbeats 8000000 in
set_option maxRecDepth 100000 in
theorem impl_Memory_store.calls (P0_0_ : Nat → Prop) (g : Nat) (A0_0 : Option Addr) (c0_0 : Nat) (l0_0 : List (List (S43))) (A1 : Option Addr) (c1 : Nat) (l1 : List Int) (a2 : Int) (a3 : Int) (a4 : Bool) (r1 : List (List (S43))) (r2 : List Int) (b0 : Nat) (w : World) (hbk0 : w.heap[g]? = some (.cells #[.slice A0_0 l0_0.length c0_0] 24 (0, 0))) (hS0 : Kd.S (sslice 43 k43) 44 w b0 P0_0_ (.slice A0_0 l0_0.length c0_0) l0_0) (hb0 : b0 ≤ w.heap.size) (hr1 : Kd.C (Kd.int .i64) w A1 l1.length l1) (hc1 : l1.length ≤ c1) (h : impl_Memory_store.f l0_0 l1 a2 a3 a4 = some (r1, r2)) :
  Calls Try.prog 59 #[.pointer (some ⟨g, 0, none⟩), .slice A1 l1.length c1, .int .i64 a2, .int .i64 a3, .bool a4] w fun e w' => ∃ v0_ : Value, e = .returned (v0_) ∧ w'.heap[g]? = some (.cells #[.slice A0_0 l0_0.length c0_0] 24 (0, 0)) ∧ Kd.S (sslice 43 k43) 44 w' b0 (fun k_ => (P0_0_ k_ ∨ w.heap.size ≤ k_) ∧ some k_ ≠ (v0_ : Value).ownBlock) (.slice A0_0 l0_0.length c0_0) r1 ∧ Kd.R (Kd.int .i64) 3 w' w.heap.size (fun k_ => (w.heap.size ≤ k_)) v0_ r2 ∧ Below b0 w w' ∧ Kept w w' P0_0_ := by
 have hr0_0 : Kd.C (Kd.slice 43 k43) w A0_0 l0_0.length l0_0 := (Kd.R_reads' (S_Rs hS0)).2.2
 have hc0_0 : l0_0.length ≤ c0_0 := (Kd.R_reads' (S_Rs hS0)).2.1
 have hS := aM_ hS0
 have hb0w := aM_ hb0
 have BK150 := aM_ hbk0
 clear hS0 hb0 hbk0
 have hu24 := Try.underlying24
 have HR0_0 := aM_ hr0_0
 have HC0_0 := aM_ hc0_0
 clear hr0_0 hc0_0
 have HR1 := aM_ hr1
 have HC1 := aM_ hc1
 clear hr1 hc1
 have HB := aM_ (Below.refl w.heap.size w)
 have H : ((impl_copyInts.f l1).bind fun t151 => (if 0 ≤ a2 then (if a2 < (l0_0.length : Int) then (if a2 < (t151.length : Int) then ((some (t151.set (a2 : Int).toNat ((rd_L3 l0_0 a2).length : Int) : List Int)).bind fun y155 => (if 24 ≤ 35184372088832 then (if a2 < ((List.replicate 24 0).length : Int) then (if a4 = true then ((impl_copyInts.f y155).bind fun t161 => (if (rd_L3 l0_0 a2).length < 4398046511104 then (some (l0_0.set (a2 : Int).toNat (rd_L3 l0_0 a2 ++ [(⟨a3, t161⟩ : S43)]), y155)) else (none))) else (if (rd_L3 l0_0 a2).length < 4398046511104 then (some (l0_0.set (a2 : Int).toNat (rd_L3 l0_0 a2 ++ [(⟨a3, (List.replicate 24 0).set (a2 : Int).toNat (rd y155 a2)⟩ : S43)]), y155)) else (none))) else (none)) else (none))) else (none)) else (none)) else (none))) = some (r1, r2) := h
 clear h
 replace H := Option.bind_eq_some_iff.mp H
 obtain ⟨t151, A60, H⟩ := H
 replace H : (if 0 ≤ a2 then (if a2 < (l0_0.length : Int) then (if a2 < (t151.length : Int) then ((some (t151.set (a2 : Int).toNat ((rd_L3 l0_0 a2).length : Int) : List Int)).bind fun y155 => (if 24 ≤ 35184372088832 then (if a2 < ((List.replicate 24 0).length : Int) then (if a4 = true then ((impl_copyInts.f y155).bind fun t161 => (if (rd_L3 l0_0 a2).length < 4398046511104 then (some (l0_0.set (a2 : Int).toNat (rd_L3 l0_0 a2 ++ [(⟨a3, t161⟩ : S43)]), y155)) else (none))) else (if (rd_L3 l0_0 a2).length < 4398046511104 then (some (l0_0.set (a2 : Int).toNat (rd_L3 l0_0 a2 ++ [(⟨a3, (List.replicate 24 0).set (a2 : Int).toNat (rd y155 a2)⟩ : S43)]), y155)) else (none))) else (none)) else (none))) else (none)) else (none)) else (none)) = some (r1, r2) := H
 have A6 := aM_ A60
 clear A60
 by_cases c7 : 0 ≤ a2
 ·rw [if_pos c7] at H
  have c7b0 : decide (0 ≤ a2) = true := decide_eq_true c7
  clear c7
  by_cases c8 : a2 < (l0_0.length : Int)
  ·rw [if_pos c8] at H
   have c8b0 : decide (a2 < (l0_0.length : Int)) = true := decide_eq_true c8
   clear c8
   by_cases c9 : a2 < (t151.length : Int)
   ·rw [if_pos c9] at H
    have c9b0 : decide (a2 < (t151.length : Int)) = true := decide_eq_true c9
    clear c9
    obtain ⟨y155, hy155⟩ : ∃ y_ : List Int, y_ = (t151.set (a2 : Int).toNat ((rd_L3 l0_0 a2).length : Int)) := ⟨_, rfl⟩
    replace H : (if 24 ≤ 35184372088832 then (if a2 < ((List.replicate 24 0).length : Int) then (if a4 = true then ((impl_copyInts.f y155).bind fun t161 => (if (rd_L3 l0_0 a2).length < 4398046511104 then (some (l0_0.set (a2 : Int).toNat (rd_L3 l0_0 a2 ++ [(⟨a3, t161⟩ : S43)]), y155)) else (none))) else (if (rd_L3 l0_0 a2).length < 4398046511104 then (some (l0_0.set (a2 : Int).toNat (rd_L3 l0_0 a2 ++ [(⟨a3, (List.replicate 24 0).set (a2 : Int).toNat (rd y155 a2)⟩ : S43)]), y155)) else (none))) else (none)) else (none)) = some (r1, r2) := by first | (rw [hy155]; with_reducible exact H) | (have H2_ := (Option.bind_some _ _).symm.trans H; rw [hy155]; with_reducible exact H2_) | (have H2_ := (Option.bind_some _ _).symm.trans H; with_reducible exact H2_) | with_reducible exact H | (rw [hy155]; exact H) | exact H
    have Ny155 := aM_ hy155
    clear hy155
    by_cases c11 : 24 ≤ 35184372088832
    ·rw [if_pos c11] at H
     have c11b0 := eq_true c11
     have c11b1 : decide (24 ≤ 35184372088832) = true := decide_eq_true c11
     clear c11
     obtain ⟨y156, hy156⟩ : ∃ y_ : List Int, y_ = (List.replicate 24 0) := ⟨_, rfl⟩
     replace H : (if a2 < (y156.length : Int) then (if a4 = true then ((impl_copyInts.f y155).bind fun t161 => (if (rd_L3 l0_0 a2).length < 4398046511104 then (some (l0_0.set (a2 : Int).toNat (rd_L3 l0_0 a2 ++ [(⟨a3, t161⟩ : S43)]), y155)) else (none))) else (if (rd_L3 l0_0 a2).length < 4398046511104 then (some (l0_0.set (a2 : Int).toNat (rd_L3 l0_0 a2 ++ [(⟨a3, y156.set (a2 : Int).toNat (rd y155 a2)⟩ : S43)]), y155)) else (none))) else (none)) = some (r1, r2) := by first | (rw [hy156]; with_reducible exact H) | (have H2_ := (Option.bind_some _ _).symm.trans H; rw [hy156]; with_reducible exact H2_) | (have H2_ := (Option.bind_some _ _).symm.trans H; with_reducible exact H2_) | with_reducible exact H | (rw [hy156]; exact H) | exact H
     have Ny156 := aM_ hy156
     clear hy156
     by_cases c12 : a2 < (y156.length : Int)
     ·rw [if_pos c12] at H
      have c12b0 : decide (a2 < (y156.length : Int)) = true := decide_eq_true c12
      clear c12
      obtain ⟨y160, hy160⟩ : ∃ y_ : List Int, y_ = (y156.set (a2 : Int).toNat (rd y155 a2)) := ⟨_, rfl⟩
      replace H : (if a4 = true then ((impl_copyInts.f y155).bind fun t161 => (if (rd_L3 l0_0 a2).length < 4398046511104 then (some (l0_0.set (a2 : Int).toNat (rd_L3 l0_0 a2 ++ [(⟨a3, t161⟩ : S43)]), y155)) else (none))) else (if (rd_L3 l0_0 a2).length < 4398046511104 then (some (l0_0.set (a2 : Int).toNat (rd_L3 l0_0 a2 ++ [(⟨a3, y160⟩ : S43)]), y155)) else (none))) = some (r1, r2) := by first | (rw [hy160]; with_reducible exact H) | (have H2_ := (Option.bind_some _ _).symm.trans H; rw [hy160]; with_reducible exact H2_) | (have H2_ := (Option.bind_some _ _).symm.trans H; with_reducible exact H2_) | with_reducible exact H | (rw [hy160]; exact H) | exact H
      have Ny160 := aM_ hy160
      clear hy160
      by_cases c14 : a4 = true
      ·subst c14
       have H1 : ((impl_copyInts.f y155).bind fun t161 => (if (rd_L3 l0_0 a2).length < 4398046511104 then (some (l0_0.set (a2 : Int).toNat (rd_L3 l0_0 a2 ++ [(⟨a3, t161⟩ : S43)]), y155)) else (none))) = some (r1, r2) := by rw [if_pos rfl] at H; exact H
       clear H
       have H := H1
       clear H1
       replace H := Option.bind_eq_some_iff.mp H
       obtain ⟨t161, A150, H⟩ := H
       replace H : (if (rd_L3 l0_0 a2).length < 4398046511104 then (some (l0_0.set (a2 : Int).toNat (rd_L3 l0_0 a2 ++ [(⟨a3, t161⟩ : S43)]), y155)) else (none)) = some (r1, r2) := H
       have A15 := aM_ A150
       clear A150
       by_cases cP : (rd_L3 l0_0 a2).length < 4398046511104
       case neg => rw [if_neg cP] at H; exact absurd H (by simp)
       rw [if_pos cP] at H
       have LMcP := aM_ cP
       clear cP
       obtain ⟨yP, hyP⟩ : ∃ y_ : List S43, y_ = rd_L3 l0_0 a2 ++ [(⟨a3, t161⟩ : S43)] := ⟨_, rfl⟩
       replace H : (some (l0_0.set (a2 : Int).toNat yP, y155)) = some (r1, r2) := by rw [hyP]; exact H
       have NyP := aM_ hyP
       clear hyP
       simp only [Option.some.injEq, Prod.mk.injEq] at H
       obtain ⟨rfl, rfl⟩ := H
       go_enter Try.func59, Try.ntmps59
       go_wp2_with (first | (go_at_call 58; (with_reducible refine (impl_copyInts.calls _ _ l1 t151 _ ?side1 ?side2 A6.out).mono ?_); (case side1 => exact cS_ (Kd.C_below HR1.out HB.out)); (case side2 => exact HC1.out); rintro e w17 ⟨v152, rfl, ho0, hb⟩; have n0 := aM_ (Kd.R_lower ho0 (below_size (gB_ HB.out))); have n1 := aM_ (blk_below (g := g) (o := .cells #[.slice A0_0 l0_0.length c0_0] 24 (0, 0)) (by (with_reducible repeat (first | refine bN_ ?_ _ | refine bD_ ?_ | refine bA_ ?_ _)); exact BK150.out) hb); have n2 := aM_ (sT_ HB.out hb); clear BK150; clear HB; have HO153 := n0; have BK150 := n1; have HB := n2; clear n0 n1 n2; (try clear ho0); have hcz18_0 : w17.cell? ⟨g, 0, none⟩ = some (.slice A0_0 l0_0.length c0_0) := (blk_cell BK150.out 0).trans rfl; have hfz18_0 := blk_frozen BK150.out 0; have p154 : 0 ≤ (a2 : Int) := of_decide_eq_true (by first | (with_reducible assumption) | assumption); have q154 : a2 < (l0_0.length : Int) := of_decide_eq_true (by first | (with_reducible assumption) | assumption); obtain ⟨ad154, A154_0, c154_0, e154, hx154_0, hl154_0, hi154_0⟩ := at_L3 HR0_0.out a2 p154 q154; cases e154; replace hx154_0 := cB_ HB.out hx154_0; have HR154_0 := aM_ hi154_0; have HC154_0 := aM_ hl154_0; clear hi154_0 hl154_0; replace p154 := eq_true p154; replace q154 := eq_true q154; have p10 : 0 ≤ (a2 : Int) := of_decide_eq_true (by first | (with_reducible assumption) | assumption); have q10 : (a2 : Int) < ((t151.length : Int) : Int) := of_decide_eq_true (by first | (with_reducible assumption) | assumption); obtain ⟨go10, co10, eo10, gb10, gl10, cl10, HG10⟩ := Kd.R_form HO153.out (by omega); (first | cases eo10 | (injection eo10 with ea_ en_ ec_; (first | subst ea_ | (injection ea_ with ea_; subst ea_)); subst ec_; clear en_)); have GB10 := aM_ gb10; have GG10 := aM_ HG10; clear gb10 gl10 HG10; obtain ⟨hx10_0, hf10_0⟩ := Kd.R_celln 0 HO153.out (a2 : Int) p10 q10; replace p10 := eq_true p10; replace q10 := eq_true q10; obtain ⟨hy19_, hz19_⟩ := Kd.R_celln 0 HO153.out (a2 : Int) (of_decide_eq_true (by first | (with_reducible assumption) | assumption)) (of_decide_eq_true (by first | (with_reducible assumption) | assumption)); have HP19 := Kd.R_putg HO153.out (a2 : Int) ((rd_L3 l0_0 a2).length : Int)) | ((with_reducible refine gate_store (t := 3) (p := 25) rfl ?_); (try (rw [drewN_self w17]; generalize hq_ : World.drewN w17 _ = w17; have n0 := aM_ (Kd.R_at hq_ HO153.out); have n1 := aM_ (blk_at hq_ BK150.out); have n2 := aM_ (below_at hq_ HB.out); clear hq_ HO153 BK150 HB; have HO153 := n0; have BK150 := n1; have HB := n2; clear n0 n1 n2; (try (obtain ⟨hy19_, hz19_⟩ := Kd.R_celln 0 HO153.out (a2 : Int) (of_decide_eq_true (by first | (with_reducible assumption) | assumption)) (of_decide_eq_true (by first | (with_reducible assumption) | assumption)))); (try (have HP19 := Kd.R_putg HO153.out (a2 : Int) ((rd_L3 l0_0 a2).length : Int))))); refine store_event (t := 3) (p := 25) (v := ?vo_w20) (w1 := (w17.setCell ⟨go10, (a2 : Int).toNat, none⟩ (.int .i64 ((rd_L3 l0_0 a2).length : Int)))) ?hg ?ho ?hn ?hr ?_; (case ho => rfl); (case hg => rfl); (case hn => rfl); (case hr => first | (go_simp; done) | (go_simp; rfl)); intro w20 hw; have hg : w17.grownBy w20 (some go10) := (by rw [hw]; exact HP19.2); have hp_ : Kd.R (Kd.int .i64) 3 w20 w.heap.size (fun _ => True) (.slice (some ⟨go10, 0, none⟩) t151.length co10) y155 := (by rw [hw, Ny155.out]; exact HP19.1); clear HP19; have n0 := aM_ (blk_grown (g := g) (o := .cells #[.slice (some ad154) l0_0.length c0_0] 24 (0, 0)) (by (with_reducible repeat (first | refine bN_ ?_ _ | refine bD_ ?_ | refine bA_ ?_ _)); exact BK150.out) hg (Kd.R_ne HO153.out BK150.out (by decide))); have n1 := aM_ (hp_); have n2 := aM_ ((by rw [hw]; exact below_set (HB.out) GB10.out : Below w.heap.size w w20)); clear BK150; clear HO153; clear HB; have BK150 := n0; have HO153 := n1; have HB := n2; clear n0 n1 n2; clear hg hw hp_) | ((with_reducible refine gate_dst (N := 26) rfl ?_); refine Kd.R_make (Kd.int .i64) _ 3 rfl (N := 26) rfl 31 _ _ rfl 24 rfl rfl Try.underlying31 (.int .i64 0) 8 info3 rfl (by decide) (by omega) 0 (ok := fun _ => True) (okp := fun _ => True) rfl (fun _ hk => hk) trivial (by omega) (by omega) (Below.refl _ _) (Nat.le_refl _) ?_; intro v157 w21 ho22 hb hg_ hnew_; clear hg_ hnew_; (first | rw [← Ny156.out] at ho22 | (simp only [Int.reduceToNat] at ho22; rw [← Ny156.out] at ho22)); have n0 := aM_ (Kd.R_elder' (by (with_reducible repeat (first | apply rA_ | apply rN_ | apply rD_)); exact HO153.out) (Kd.R_base ho22) hb); have n1 := aM_ (Kd.R_lower (Kd.R_new' ho22 (Kd.R_lt (by (with_reducible repeat (first | apply rA_ | apply rN_ | apply rD_)); exact HO153.out))) (below_size (gB_ HB.out))); have n2 := aM_ (blk_below (g := g) (o := .cells #[.slice (some ad154) l0_0.length c0_0] 24 (0, 0)) (by (with_reducible repeat (first | refine bN_ ?_ _ | refine bD_ ?_ | refine bA_ ?_ _)); exact BK150.out) hb); have n3 := aM_ (sT_ HB.out hb); clear HO153; clear BK150; clear HB; have HO153 := n0; have HO158 := n1; have BK150 := n2; have HB := n3; clear n0 n1 n2 n3; clear hb ho22; have p159 : 0 ≤ (a2 : Int) := of_decide_eq_true (by first | (with_reducible assumption) | assumption); have q159 : a2 < (y155.length : Int) := (by have h_ : (a2 : Int) < ((t151.length : Int) : Int) := of_decide_eq_true (by first | (with_reducible assumption) | assumption); first | (have e_ := (Kd.R_reads' HO153.out).1; omega) | simpa only [Ny155.out, List.length_set] using h_); have ql159 : ((a2 : Int) < ((t151.length : Int) : Int)) = True := eq_true (of_decide_eq_true (by first | (with_reducible assumption) | assumption)); obtain ⟨ad159, e159, hx159_0⟩ := Kd.at_int (Kd.R_reads' HO153.out).2.2 a2 p159 q159; obtain rfl : (⟨go10, 0, none⟩ : Addr) = ad159 := (by injection e159); (first | simp only [add_plain] at hx159_0 | simp only [add_at] at hx159_0 | simp only [Addr.add, Nat.zero_add] at hx159_0 | skip); replace p159 := eq_true p159; replace q159 := eq_true q159; have p13 : 0 ≤ (a2 : Int) := of_decide_eq_true (by first | (with_reducible assumption) | assumption); have q13 : (a2 : Int) < ((y156.length : Int) : Int) := of_decide_eq_true (by first | (with_reducible assumption) | assumption); obtain ⟨go13, co13, eo13, gb13, gl13, cl13, HG13⟩ := Kd.R_form HO158.out (by omega); (first | cases eo13 | (injection eo13 with ea_ en_ ec_; (first | subst ea_ | (injection ea_ with ea_; subst ea_)); subst ec_; clear en_)); have GB13 := aM_ gb13; have GG13 := aM_ HG13; clear gb13 gl13 HG13; obtain ⟨hx13_0, hf13_0⟩ := Kd.R_celln 0 HO158.out (a2 : Int) p13 q13; replace p13 := eq_true p13; replace q13 := eq_true q13; have n_ := aM_ (Kd.R_mono (ok' := (fun k_ => some k_ ≠ (.slice (some ⟨go10, 0, none⟩) t151.length co10 : Value).ownBlock)) HO158.out (fun k_ hk => hk.2)); clear HO158; have HO158 := n_; clear n_; obtain ⟨hy23_, hz23_⟩ := Kd.R_celln 0 HO158.out (a2 : Int) (of_decide_eq_true (by first | (with_reducible assumption) | assumption)) (of_decide_eq_true (by first | (with_reducible assumption) | assumption)); have HP23 := Kd.R_putg HO158.out (a2 : Int) (rd y155 a2)) | ((with_reducible refine gate_store (t := 3) (p := 33) rfl ?_); (try (rw [drewN_self w21]; generalize hq_ : World.drewN w21 _ = w21; have n0 := aM_ (Kd.R_at hq_ HO153.out); have n1 := aM_ (Kd.R_at hq_ HO158.out); have n2 := aM_ (blk_at hq_ BK150.out); have n3 := aM_ (below_at hq_ HB.out); clear hq_ HO153 HO158 BK150 HB; have HO153 := n0; have HO158 := n1; have BK150 := n2; have HB := n3; clear n0 n1 n2 n3; (try (have n_ := aM_ (Kd.R_mono (ok' := (fun k_ => some k_ ≠ (.slice (some ⟨go10, 0, none⟩) t151.length co10 : Value).ownBlock)) HO158.out (fun k_ hk => hk.2)); clear HO158; have HO158 := n_; clear n_)); (try (obtain ⟨hy23_, hz23_⟩ := Kd.R_celln 0 HO158.out (a2 : Int) (of_decide_eq_true (by first | (with_reducible assumption) | assumption)) (of_decide_eq_true (by first | (with_reducible assumption) | assumption)))); (try (have HP23 := Kd.R_putg HO158.out (a2 : Int) (rd y155 a2))))); refine store_event (t := 3) (p := 33) (v := ?vo_w24) (w1 := (w21.setCell ⟨go13, (a2 : Int).toNat, none⟩ (.int .i64 (rd y155 a2)))) ?hg ?ho ?hn ?hr ?_; (case ho => rfl); (case hg => rfl); (case hn => rfl); (case hr => first | (go_simp; done) | (go_simp; rfl)); intro w24 hw; have hg : w21.grownBy w24 (some go13) := (by rw [hw]; exact HP23.2); have hp_ : Kd.R (Kd.int .i64) 3 w24 w.heap.size (fun k_ => some k_ ≠ (.slice (some ⟨go10, 0, none⟩) t151.length co10 : Value).ownBlock) (.slice (some ⟨go13, 0, none⟩) y156.length co13) y160 := (by rw [hw, Ny160.out]; exact HP23.1); clear HP23; have n0 := aM_ (blk_grown (g := g) (o := .cells #[.slice (some ad154) l0_0.length c0_0] 24 (0, 0)) (by (with_reducible repeat (first | refine bN_ ?_ _ | refine bD_ ?_ | refine bA_ ?_ _)); exact BK150.out) hg (Kd.R_ne HO158.out BK150.out (by decide))); have n1 := aM_ (Kd.R_after (v := (.slice (some ⟨go13, 0, none⟩) y156.length co13)) (v1 := (.slice (some ⟨go13, 0, none⟩) y156.length co13)) (ok := (fun _ => True)) (by (with_reducible repeat (first | apply rA_ | apply rN_ | apply rD_)); exact HO153.out) hg (.inl rfl)); have n2 := aM_ (hp_); have n3 := aM_ ((by rw [hw]; exact below_set (HB.out) GB13.out : Below w.heap.size w w24)); clear BK150; clear HO153; clear HO158; clear HB; have BK150 := n0; have HO153 := n1; have HO158 := n2; have HB := n3; clear n0 n1 n2 n3; clear hg hw hp_) | (go_at_call 58; refine calls_of_args (args' := #[.slice (some ⟨go10, 0, none⟩) y155.length co10]) (by first | (rw [show y155.length = t151.length from (Kd.R_reads' HO153.out).1.symm] <;> rfl) | rfl) ?_; (with_reducible refine (impl_copyInts.calls _ _ y155 t161 _ ?side1 ?side2 A15.out).mono ?_); (case side1 => exact cS_ (Kd.R_reads' HO153.out).2.2); (case side2 => rw [show y155.length = t151.length from (Kd.R_reads' HO153.out).1.symm]; exact (Kd.R_reads' HO153.out).2.1); rintro e w25 ⟨v162, rfl, ho0, hb⟩; have n0 := aM_ (Kd.R_elder' (by (with_reducible repeat (first | apply rA_ | apply rN_ | apply rD_)); exact HO153.out) (Kd.R_base ho0) hb); have n1 := aM_ (Kd.R_elder' (by (with_reducible repeat (first | apply rA_ | apply rN_ | apply rD_)); exact HO158.out) (Kd.R_base ho0) hb); have n2 := aM_ (Kd.R_lower (Kd.R_new' (Kd.R_new' ho0 (Kd.R_lt (by (with_reducible repeat (first | apply rA_ | apply rN_ | apply rD_)); exact HO153.out))) (Kd.R_lt (by (with_reducible repeat (first | apply rA_ | apply rN_ | apply rD_)); exact HO158.out))) (below_size (gB_ HB.out))); have n3 := aM_ (blk_below (g := g) (o := .cells #[.slice (some ad154) l0_0.length c0_0] 24 (0, 0)) (by (with_reducible repeat (first | refine bN_ ?_ _ | refine bD_ ?_ | refine bA_ ?_ _)); exact BK150.out) hb); have n4 := aM_ (sT_ HB.out hb); clear HO153; clear HO158; clear BK150; clear HB; have HO153 := n0; have HO158 := n1; have HO163 := n2; have BK150 := n3; have HB := n4; clear n0 n1 n2 n3 n4; (try clear ho0)))
       obtain ⟨AT_, cT_, rfl⟩ := Kd.R_slice HO163.out
       replace HO153 := aM_ (Kd.R_drew HO153.out)
       replace HO158 := aM_ (Kd.R_drew HO158.out)
       replace HO163 := aM_ (Kd.R_drew HO163.out)
       replace BK150 := aM_ (blk_drew BK150.out)
       replace HB := aM_ (below_drew1 HB.out)
       have hbs_ := below_size HB.out
       have HSm := aM_ (Kd.S_old hS.out HB.out)
       have hp_ : 0 ≤ a2 := of_decide_eq_true c7b0
       have hq_ : a2 < (l0_0.length : Int) := of_decide_eq_true c8b0
       obtain ⟨gM, rfl⟩ := Kd.R_head (Kd.S_R HSm.out)
       obtain ⟨oki, Ae, ce, hSe, hcM, hoki, ⟨cellsM, hBM⟩, hback⟩ := S_push HSm.out a2 hp_ hq_
       have HSe := aM_ hSe
       have BKM := aM_ hBM
       have hkM := aM_ ((blk_cell hBM (a2).toNat).symm.trans hcM)
       have HBK := aM_ hback
       have HOK := aM_ hoki
       have HGM : Aside0 (gM < w.heap.size) := ⟨((Kd.S_R HSm.out).1 gM rfl).2⟩
       have HRW : Aside0 (∀ k, (Value.slice Ae (rd_L3 l0_0 a2).length ce).ownBlock = some k → P0_0_ k ∧ k < w.heap.size) := ⟨fun k hk => (hoki k ((Kd.S_R hSe).1 k hk)).1⟩
       clear hSe hBM hcM hback hoki hp_ hq_
       refine start_ (n := 19) (S := fun w' => w'.cell? ⟨g, 0, none⟩ = some (.slice (some ⟨gM, 0, none⟩) l0_0.length c0_0) ∧ w'.cell? ⟨gM, (a2).toNat, none⟩ = some (.slice Ae (rd_L3 l0_0 a2).length ce)) (ds := [18]) #[false, false, false, false, false, false, false, false, false, false, false, false, false, false, false, false, false, false, false] (by kernel_rfl) rfl rfl ⟨(blk_cell (BK150.out) 0).trans rfl, (blk_cell (BKM.out) _).trans hkM.out⟩ (fun hHeld => ?_)
       generalize w25.drew = wR at HO153 HO158 HO163 BK150 HB HSm HSe BKM HBK hbs_ hHeld ⊢
       refine pU_ 0 (some 37) (mk_ 19 1) ?_
       refine pU_ 1 (some 38) (mk_ 19 3) ?_
       refine pU_ 2 (some 39) (mk_ 19 7) ?_
       refine pU_ 4 (some 41) (mk_ 19 23) ?_
       refine pU_ 5 (some 42) (mk_ 19 55) ?_
       refine pU_ 6 (some 43) (mk_ 19 119) ?_
       refine pU_ 7 (some 44) (mk_ 19 247) ?_
       refine pU_ 9 (some 46) (mk_ 19 759) ?_
       refine pU_ 12 (some 49) (mk_ 19 4855) ?_
       refine pU_ 13 (some 50) (mk_ 19 13047) ?_
       refine pU_ 14 (some 51) (mk_ 19 29431) ?_
       refine tK2_ 3 (some 40) (mk_ 19 29439) ?_
       refine tK2_ 8 (some 45) (mk_ 19 29695) ?_
       refine pU_ 10 (some 47) (mk_ 19 30719) ?_
       refine tK2_ 11 (some 48) (mk_ 19 32767) ?_
       refine oN_ 15 (some 52) (mk_ 19 65535) (fun K hK => ?_)
       refine value_ (w1 := ?_) (v := ?_) (by rfl) rfl ?_ ?_
       rotate_left 2
       ·go_simp
        constructor
        ·rfl
        ·rfl
       refine hK.out _ _ ⟨(blk_cell (blk_alloc BK150.out _) 0).trans rfl, (blk_cell (blk_alloc BKM.out _) _).trans hkM.out⟩ (fun hHeld => ?_)
       clear hK K
       refine norm_ (a' := ?_) ?_ ?_
       rotate_left
       ·show Act.put _ (some 52) _ = _
        simp only [pt_, pn_, sI_, s0_, s1_, i64_w, i32_w]
        rfl
       refine oN_ 16 (some 53) (mk_ 19 131071) (fun K hK => ?_)
       have hT1 := HO163.out.1
       have hT2 : ∀ k, (.slice AT_ t161.length cT_ : Value).ownBlock = some k → w.heap.size ≤ k := Kd.R_base HO163.out
       refine Kd.S_append_step k43 (w0 := w) b0 (by rfl) (.tmp 48) (.tmp 52) 44 43 (.agg #[(.int .i64 0), (.slice none 0 0)]) 32 rfl Try.underlying44 info43 rfl (by decide) (by omega) (.slice Ae (rd_L3 l0_0 a2).length ce) (rd_L3 l0_0 a2) (⟨a3, t161⟩ : S43) [.int .i64 a3, .slice AT_ t161.length cT_] (fun k_ => oki k_ ∨ (w.heap.size ≤ k_ ∧ some k_ ≠ (.slice (some ⟨go10, 0, none⟩) t151.length co10 : Value).ownBlock)) (fun k_ => some k_ = (.slice AT_ t161.length cT_ : Value).ownBlock) rfl rfl ?aP ?aK ?aF ?aO ?aB ?aS ?aL ?_
       (case aP => exact k43_mkM _ _ _ (⟨a3, t161⟩ : S43) (Kd.R_mono (Kd.R_tight rfl (Kd.R_lower HO163.out hb0w.out)) (fun _ h_ => h_)))
       (case aK => exact fun k hk => ⟨.inr ⟨hT2 k hk.symm, by have h1 := hT1 k hk.symm; first | exact h1.2.1 | exact h1.2 | exact h1.1 | exact h1.1.2 | exact h1⟩, fun e => absurd (hT2 k hk.symm) (Nat.not_le.2 (HRW.out k e.symm).2)⟩)
       (case aF => exact fun k hk => .inr ⟨Nat.le_trans hbs_ hk, fun e => Nat.not_le.2 (Kd.R_lt HO153.out k e.symm) hk⟩)
       (case aO => exact Kd.S_mono HSe.out (fun k hk => ⟨.inl hk, fun e => absurd (hT2 k e.symm) (Nat.not_le.2 (HOK.out k hk).1.2)⟩))
       (case aB => exact HB.out.mono hb0w.out)
       (case aS => exact Nat.le_trans hb0w.out hbs_)
       (case aL => have := LMcP.out; omega)
       intro vP wP ho hb hg hat
       rw [← NyP.out] at ho
       have hnb : ∀ {g t : Nat} {cs : Array Value}, wR.heap[g]? = some (.cells cs t (0, 0)) → t ≠ 43 → some g ≠ (Value.slice Ae (rd_L3 l0_0 a2).length ce).ownBlock := fun hb_ ht => Kd.S_ne HSe.out hb_ (Ne.symm ht)
       have HKP : Aside0 (Kept w wP P0_0_) := ⟨Kept.of_grown hg (Kept.of_below HB.out P0_0_) (fun k e => .inl (HRW.out k e).1)⟩
       have BK150n := aM_ (blk_grown BK150.out hg (hnb BK150.out (by decide)))
       have BKMn := aM_ (blk_grown BKM.out hg (hnb BKM.out (by decide)))
       have HO153n := aM_ (Kd.R_mono (Kd.R_grown (Kd.R_bound HO153.out) hg (fun k hk e => absurd hk.2.1 (Nat.not_le.2 (HRW.out k e.symm).2))) (fun _ hk => hk.1))
       clear hT1 hT2 hnb
       clear BK150 BKM HO153 HB HSm
       have BK150 := BK150n
       have BKM := BKMn
       have HO153 := HO153n
       clear BK150n BKMn HO153n
       obtain ⟨An, cn, rfl⟩ := Kd.S_slice ho
       have HP := aM_ ho
       have HBP : Aside0 (Below b0 w wP) := ⟨hb⟩
       have HG := aM_ hg
       clear ho hb hg hat
       refine hK.out _ _ ⟨(blk_cell (BK150.out) 0).trans rfl, (blk_cell (BKM.out) _).trans hkM.out⟩ (fun hHeld => ?_)
       clear hK K
       refine norm_ (a' := ?_) ?_ ?_
       rotate_left
       ·show Act.put _ (some 53) _ = _
        simp only [pt_, pn_, sI_, s0_, s1_, i64_w, i32_w]
        rfl
       refine pU_ 17 (some 54) (mk_ 19 262143) ?_
       refine last_ (i := 18) (N := none) #[true, true, true, true, true, true, true, true, true, true, true, true, true, true, true, true, true, true, true] rfl rfl (by kernel_rfl) (by decide) (fun K hK => ?_)
       have hsM : wP.cell? ⟨gM, (a2).toNat, none⟩ = some (.slice Ae (rd_L3 l0_0 a2).length ce) := (blk_cell BKM.out _).trans hkM.out
       have hfM := blk_frozen BKM.out (a2).toNat
       refine skip_ (w1 := ?_) (by rfl) rfl ?_ ?_
       rotate_left
       ·go_simp
        rfl
       refine hK.out _ _ ?_
       clear hK K
       refine done_ (by kernel_rfl) ?_
       have HSn := aM_ (HBK.out wP (.slice An yP.length cn) yP (fun k_ => w.heap.size ≤ k_ ∧ some k_ ≠ (.slice (some ⟨go10, 0, none⟩) t151.length co10 : Value).ownBlock) HG.out HP.out (fun k hk => ⟨fun h => Nat.not_le.2 h.2 hk.1, fun e => absurd (e ▸ hk.1) (Nat.not_le.2 HGM.out)⟩))
       replace BK150 := aM_ (blk_far (p := ⟨gM, (a2).toNat, none⟩) BK150.out (by intro e_; have h_ := BK150.out; rw [show _ = gM from e_, BKM.out] at h_; simp at h_) (.slice An yP.length cn))
       replace HO153 := aM_ (Kd.R_mono (Kd.R_far (p := ⟨gM, (a2).toNat, none⟩) (Kd.R_bound HO153.out) (fun k hk e => absurd hk.2.1 (Nat.not_le.2 (show k < w.heap.size from (show k = gM from e) ▸ HGM.out))) (.slice An yP.length cn)) (fun _ hk => hk.1))
       replace HKP := aM_ (HKP.out.setCell (p := ⟨gM, (a2).toNat, none⟩) (.inl ((Kd.S_R hS.out).1 gM rfl)) (.slice An yP.length cn))
       replace HBP : Aside0 (Below b0 w (wP.setCell ⟨gM, (a2).toNat, none⟩ (.slice An yP.length cn))) := ⟨HBP.out.setCell (Kd.S_base hS.out gM rfl) _⟩
       clear hsM hfM HG HP HBK HSe BKM hkM HOK HRW hHeld
       generalize (wP.setCell ⟨gM, (a2).toNat, none⟩ (.slice An yP.length cn)) = wQ at HSn HKP HBP BK150 HO153 ⊢
       go_wp2
       go_ret
       exact ⟨_, by first | rfl | (simp [*]; done), BK150.out, Kd.S_mono HSn.out (fun k hk => hk.elim (fun h => ⟨.inl h.1, fun e => absurd (Kd.R_base HO153.out k e.symm) (Nat.not_le.2 h.2)⟩) (fun h => ⟨.inr h.1, h.2⟩)), Kd.R_mono (Kd.R_bound HO153.out) (fun _ hk => hk.2.1), HBP.out, HKP.out⟩
      ·replace c14 := Bool.eq_false_iff.mpr c14
       subst c14
       have H1 : (if (rd_L3 l0_0 a2).length < 4398046511104 then (some (l0_0.set (a2 : Int).toNat (rd_L3 l0_0 a2 ++ [(⟨a3, y160⟩ : S43)]), y155)) else (none)) = some (r1, r2) := by rw [if_neg (show ¬ (false = true) by decide)] at H; exact H
       clear H
       have H := H1
       clear H1
       by_cases cP : (rd_L3 l0_0 a2).length < 4398046511104
       case neg => rw [if_neg cP] at H; exact absurd H (by simp)
       rw [if_pos cP] at H
       have LMcP := aM_ cP
       clear cP
       obtain ⟨yP, hyP⟩ : ∃ y_ : List S43, y_ = rd_L3 l0_0 a2 ++ [(⟨a3, y160⟩ : S43)] := ⟨_, rfl⟩
       replace H : (some (l0_0.set (a2 : Int).toNat yP, y155)) = some (r1, r2) := by rw [hyP]; exact H
       have NyP := aM_ hyP
       clear hyP
       simp only [Option.some.injEq, Prod.mk.injEq] at H
       obtain ⟨rfl, rfl⟩ := H
       go_enter Try.func59, Try.ntmps59
       go_wp2_with (first | (go_at_call 58; (with_reducible refine (impl_copyInts.calls _ _ l1 t151 _ ?side1 ?side2 A6.out).mono ?_); (case side1 => exact cS_ (Kd.C_below HR1.out HB.out)); (case side2 => exact HC1.out); rintro e w27 ⟨v152, rfl, ho0, hb⟩; have n0 := aM_ (Kd.R_lower ho0 (below_size (gB_ HB.out))); have n1 := aM_ (blk_below (g := g) (o := .cells #[.slice A0_0 l0_0.length c0_0] 24 (0, 0)) (by (with_reducible repeat (first | refine bN_ ?_ _ | refine bD_ ?_ | refine bA_ ?_ _)); exact BK150.out) hb); have n2 := aM_ (sT_ HB.out hb); clear BK150; clear HB; have HO153 := n0; have BK150 := n1; have HB := n2; clear n0 n1 n2; (try clear ho0); have hcz28_0 : w27.cell? ⟨g, 0, none⟩ = some (.slice A0_0 l0_0.length c0_0) := (blk_cell BK150.out 0).trans rfl; have hfz28_0 := blk_frozen BK150.out 0; have p154 : 0 ≤ (a2 : Int) := of_decide_eq_true (by first | (with_reducible assumption) | assumption); have q154 : a2 < (l0_0.length : Int) := of_decide_eq_true (by first | (with_reducible assumption) | assumption); obtain ⟨ad154, A154_0, c154_0, e154, hx154_0, hl154_0, hi154_0⟩ := at_L3 HR0_0.out a2 p154 q154; cases e154; replace hx154_0 := cB_ HB.out hx154_0; have HR154_0 := aM_ hi154_0; have HC154_0 := aM_ hl154_0; clear hi154_0 hl154_0; replace p154 := eq_true p154; replace q154 := eq_true q154; have p10 : 0 ≤ (a2 : Int) := of_decide_eq_true (by first | (with_reducible assumption) | assumption); have q10 : (a2 : Int) < ((t151.length : Int) : Int) := of_decide_eq_true (by first | (with_reducible assumption) | assumption); obtain ⟨go10, co10, eo10, gb10, gl10, cl10, HG10⟩ := Kd.R_form HO153.out (by omega); (first | cases eo10 | (injection eo10 with ea_ en_ ec_; (first | subst ea_ | (injection ea_ with ea_; subst ea_)); subst ec_; clear en_)); have GB10 := aM_ gb10; have GG10 := aM_ HG10; clear gb10 gl10 HG10; obtain ⟨hx10_0, hf10_0⟩ := Kd.R_celln 0 HO153.out (a2 : Int) p10 q10; replace p10 := eq_true p10; replace q10 := eq_true q10; obtain ⟨hy29_, hz29_⟩ := Kd.R_celln 0 HO153.out (a2 : Int) (of_decide_eq_true (by first | (with_reducible assumption) | assumption)) (of_decide_eq_true (by first | (with_reducible assumption) | assumption)); have HP29 := Kd.R_putg HO153.out (a2 : Int) ((rd_L3 l0_0 a2).length : Int)) | ((with_reducible refine gate_store (t := 3) (p := 25) rfl ?_); (try (rw [drewN_self w27]; generalize hq_ : World.drewN w27 _ = w27; have n0 := aM_ (Kd.R_at hq_ HO153.out); have n1 := aM_ (blk_at hq_ BK150.out); have n2 := aM_ (below_at hq_ HB.out); clear hq_ HO153 BK150 HB; have HO153 := n0; have BK150 := n1; have HB := n2; clear n0 n1 n2; (try (obtain ⟨hy29_, hz29_⟩ := Kd.R_celln 0 HO153.out (a2 : Int) (of_decide_eq_true (by first | (with_reducible assumption) | assumption)) (of_decide_eq_true (by first | (with_reducible assumption) | assumption)))); (try (have HP29 := Kd.R_putg HO153.out (a2 : Int) ((rd_L3 l0_0 a2).length : Int))))); refine store_event (t := 3) (p := 25) (v := ?vo_w30) (w1 := (w27.setCell ⟨go10, (a2 : Int).toNat, none⟩ (.int .i64 ((rd_L3 l0_0 a2).length : Int)))) ?hg ?ho ?hn ?hr ?_; (case ho => rfl); (case hg => rfl); (case hn => rfl); (case hr => first | (go_simp; done) | (go_simp; rfl)); intro w30 hw; have hg : w27.grownBy w30 (some go10) := (by rw [hw]; exact HP29.2); have hp_ : Kd.R (Kd.int .i64) 3 w30 w.heap.size (fun _ => True) (.slice (some ⟨go10, 0, none⟩) t151.length co10) y155 := (by rw [hw, Ny155.out]; exact HP29.1); clear HP29; have n0 := aM_ (blk_grown (g := g) (o := .cells #[.slice (some ad154) l0_0.length c0_0] 24 (0, 0)) (by (with_reducible repeat (first | refine bN_ ?_ _ | refine bD_ ?_ | refine bA_ ?_ _)); exact BK150.out) hg (Kd.R_ne HO153.out BK150.out (by decide))); have n1 := aM_ (hp_); have n2 := aM_ ((by rw [hw]; exact below_set (HB.out) GB10.out : Below w.heap.size w w30)); clear BK150; clear HO153; clear HB; have BK150 := n0; have HO153 := n1; have HB := n2; clear n0 n1 n2; clear hg hw hp_) | ((with_reducible refine gate_dst (N := 26) rfl ?_); refine Kd.R_make (Kd.int .i64) _ 3 rfl (N := 26) rfl 31 _ _ rfl 24 rfl rfl Try.underlying31 (.int .i64 0) 8 info3 rfl (by decide) (by omega) 0 (ok := fun _ => True) (okp := fun _ => True) rfl (fun _ hk => hk) trivial (by omega) (by omega) (Below.refl _ _) (Nat.le_refl _) ?_; intro v157 w31 ho32 hb hg_ hnew_; clear hg_ hnew_; (first | rw [← Ny156.out] at ho32 | (simp only [Int.reduceToNat] at ho32; rw [← Ny156.out] at ho32)); have n0 := aM_ (Kd.R_elder' (by (with_reducible repeat (first | apply rA_ | apply rN_ | apply rD_)); exact HO153.out) (Kd.R_base ho32) hb); have n1 := aM_ (Kd.R_lower (Kd.R_new' ho32 (Kd.R_lt (by (with_reducible repeat (first | apply rA_ | apply rN_ | apply rD_)); exact HO153.out))) (below_size (gB_ HB.out))); have n2 := aM_ (blk_below (g := g) (o := .cells #[.slice (some ad154) l0_0.length c0_0] 24 (0, 0)) (by (with_reducible repeat (first | refine bN_ ?_ _ | refine bD_ ?_ | refine bA_ ?_ _)); exact BK150.out) hb); have n3 := aM_ (sT_ HB.out hb); clear HO153; clear BK150; clear HB; have HO153 := n0; have HO158 := n1; have BK150 := n2; have HB := n3; clear n0 n1 n2 n3; clear hb ho32; have p159 : 0 ≤ (a2 : Int) := of_decide_eq_true (by first | (with_reducible assumption) | assumption); have q159 : a2 < (y155.length : Int) := (by have h_ : (a2 : Int) < ((t151.length : Int) : Int) := of_decide_eq_true (by first | (with_reducible assumption) | assumption); first | (have e_ := (Kd.R_reads' HO153.out).1; omega) | simpa only [Ny155.out, List.length_set] using h_); have ql159 : ((a2 : Int) < ((t151.length : Int) : Int)) = True := eq_true (of_decide_eq_true (by first | (with_reducible assumption) | assumption)); obtain ⟨ad159, e159, hx159_0⟩ := Kd.at_int (Kd.R_reads' HO153.out).2.2 a2 p159 q159; obtain rfl : (⟨go10, 0, none⟩ : Addr) = ad159 := (by injection e159); (first | simp only [add_plain] at hx159_0 | simp only [add_at] at hx159_0 | simp only [Addr.add, Nat.zero_add] at hx159_0 | skip); replace p159 := eq_true p159; replace q159 := eq_true q159; have p13 : 0 ≤ (a2 : Int) := of_decide_eq_true (by first | (with_reducible assumption) | assumption); have q13 : (a2 : Int) < ((y156.length : Int) : Int) := of_decide_eq_true (by first | (with_reducible assumption) | assumption); obtain ⟨go13, co13, eo13, gb13, gl13, cl13, HG13⟩ := Kd.R_form HO158.out (by omega); (first | cases eo13 | (injection eo13 with ea_ en_ ec_; (first | subst ea_ | (injection ea_ with ea_; subst ea_)); subst ec_; clear en_)); have GB13 := aM_ gb13; have GG13 := aM_ HG13; clear gb13 gl13 HG13; obtain ⟨hx13_0, hf13_0⟩ := Kd.R_celln 0 HO158.out (a2 : Int) p13 q13; replace p13 := eq_true p13; replace q13 := eq_true q13; have n_ := aM_ (Kd.R_mono (ok' := (fun k_ => some k_ ≠ (.slice (some ⟨go10, 0, none⟩) t151.length co10 : Value).ownBlock)) HO158.out (fun k_ hk => hk.2)); clear HO158; have HO158 := n_; clear n_; obtain ⟨hy33_, hz33_⟩ := Kd.R_celln 0 HO158.out (a2 : Int) (of_decide_eq_true (by first | (with_reducible assumption) | assumption)) (of_decide_eq_true (by first | (with_reducible assumption) | assumption)); have HP33 := Kd.R_putg HO158.out (a2 : Int) (rd y155 a2)) | ((with_reducible refine gate_store (t := 3) (p := 33) rfl ?_); (try (rw [drewN_self w31]; generalize hq_ : World.drewN w31 _ = w31; have n0 := aM_ (Kd.R_at hq_ HO153.out); have n1 := aM_ (Kd.R_at hq_ HO158.out); have n2 := aM_ (blk_at hq_ BK150.out); have n3 := aM_ (below_at hq_ HB.out); clear hq_ HO153 HO158 BK150 HB; have HO153 := n0; have HO158 := n1; have BK150 := n2; have HB := n3; clear n0 n1 n2 n3; (try (have n_ := aM_ (Kd.R_mono (ok' := (fun k_ => some k_ ≠ (.slice (some ⟨go10, 0, none⟩) t151.length co10 : Value).ownBlock)) HO158.out (fun k_ hk => hk.2)); clear HO158; have HO158 := n_; clear n_)); (try (obtain ⟨hy33_, hz33_⟩ := Kd.R_celln 0 HO158.out (a2 : Int) (of_decide_eq_true (by first | (with_reducible assumption) | assumption)) (of_decide_eq_true (by first | (with_reducible assumption) | assumption)))); (try (have HP33 := Kd.R_putg HO158.out (a2 : Int) (rd y155 a2))))); refine store_event (t := 3) (p := 33) (v := ?vo_w34) (w1 := (w31.setCell ⟨go13, (a2 : Int).toNat, none⟩ (.int .i64 (rd y155 a2)))) ?hg ?ho ?hn ?hr ?_; (case ho => rfl); (case hg => rfl); (case hn => rfl); (case hr => first | (go_simp; done) | (go_simp; rfl)); intro w34 hw; have hg : w31.grownBy w34 (some go13) := (by rw [hw]; exact HP33.2); have hp_ : Kd.R (Kd.int .i64) 3 w34 w.heap.size (fun k_ => some k_ ≠ (.slice (some ⟨go10, 0, none⟩) t151.length co10 : Value).ownBlock) (.slice (some ⟨go13, 0, none⟩) y156.length co13) y160 := (by rw [hw, Ny160.out]; exact HP33.1); clear HP33; have n0 := aM_ (blk_grown (g := g) (o := .cells #[.slice (some ad154) l0_0.length c0_0] 24 (0, 0)) (by (with_reducible repeat (first | refine bN_ ?_ _ | refine bD_ ?_ | refine bA_ ?_ _)); exact BK150.out) hg (Kd.R_ne HO158.out BK150.out (by decide))); have n1 := aM_ (Kd.R_after (v := (.slice (some ⟨go13, 0, none⟩) y156.length co13)) (v1 := (.slice (some ⟨go13, 0, none⟩) y156.length co13)) (ok := (fun _ => True)) (by (with_reducible repeat (first | apply rA_ | apply rN_ | apply rD_)); exact HO153.out) hg (.inl rfl)); have n2 := aM_ (hp_); have n3 := aM_ ((by rw [hw]; exact below_set (HB.out) GB13.out : Below w.heap.size w w34)); clear BK150; clear HO153; clear HO158; clear HB; have BK150 := n0; have HO153 := n1; have HO158 := n2; have HB := n3; clear n0 n1 n2 n3; clear hg hw hp_))
       replace HO153 := aM_ (Kd.R_drew HO153.out)
       replace HO158 := aM_ (Kd.R_drew HO158.out)
       replace BK150 := aM_ (blk_drew BK150.out)
       replace HB := aM_ (below_drew1 HB.out)
       have hbs_ := below_size HB.out
       have HSm := aM_ (Kd.S_old hS.out HB.out)
       have hp_ : 0 ≤ a2 := of_decide_eq_true c7b0
       have hq_ : a2 < (l0_0.length : Int) := of_decide_eq_true c8b0
       obtain ⟨gM, rfl⟩ := Kd.R_head (Kd.S_R HSm.out)
       obtain ⟨oki, Ae, ce, hSe, hcM, hoki, ⟨cellsM, hBM⟩, hback⟩ := S_push HSm.out a2 hp_ hq_
       have HSe := aM_ hSe
       have BKM := aM_ hBM
       have hkM := aM_ ((blk_cell hBM (a2).toNat).symm.trans hcM)
       have HBK := aM_ hback
       have HOK := aM_ hoki
       have HGM : Aside0 (gM < w.heap.size) := ⟨((Kd.S_R HSm.out).1 gM rfl).2⟩
       have HRW : Aside0 (∀ k, (Value.slice Ae (rd_L3 l0_0 a2).length ce).ownBlock = some k → P0_0_ k ∧ k < w.heap.size) := ⟨fun k hk => (hoki k ((Kd.S_R hSe).1 k hk)).1⟩
       clear hSe hBM hcM hback hoki hp_ hq_
       refine start_ (n := 19) (S := fun w' => w'.cell? ⟨g, 0, none⟩ = some (.slice (some ⟨gM, 0, none⟩) l0_0.length c0_0) ∧ w'.cell? ⟨gM, (a2).toNat, none⟩ = some (.slice Ae (rd_L3 l0_0 a2).length ce)) (ds := [18]) #[false, false, false, false, false, false, false, false, false, false, false, false, false, false, false, false, false, false, false] (by kernel_rfl) rfl rfl ⟨(blk_cell (BK150.out) 0).trans rfl, (blk_cell (BKM.out) _).trans hkM.out⟩ (fun hHeld => ?_)
       generalize w34.drew = wR at HO153 HO158 BK150 HB HSm HSe BKM HBK hbs_ hHeld ⊢
       refine pU_ 0 (some 37) (mk_ 19 1) ?_
       refine pU_ 1 (some 38) (mk_ 19 3) ?_
       refine pU_ 2 (some 39) (mk_ 19 7) ?_
       refine pU_ 4 (some 41) (mk_ 19 23) ?_
       refine pU_ 5 (some 42) (mk_ 19 55) ?_
       refine pU_ 6 (some 43) (mk_ 19 119) ?_
       refine pU_ 7 (some 44) (mk_ 19 247) ?_
       refine pU_ 9 (some 46) (mk_ 19 759) ?_
       refine pU_ 12 (some 49) (mk_ 19 4855) ?_
       refine pU_ 13 (some 50) (mk_ 19 13047) ?_
       refine pU_ 14 (some 51) (mk_ 19 29431) ?_
       refine tK2_ 3 (some 40) (mk_ 19 29439) ?_
       refine tK2_ 8 (some 45) (mk_ 19 29695) ?_
       refine pU_ 10 (some 47) (mk_ 19 30719) ?_
       refine tK2_ 11 (some 48) (mk_ 19 32767) ?_
       refine oN_ 15 (some 52) (mk_ 19 65535) (fun K hK => ?_)
       refine value_ (w1 := ?_) (v := ?_) (by rfl) rfl ?_ ?_
       rotate_left 2
       ·go_simp
        constructor
        ·rfl
        ·rfl
       refine hK.out _ _ ⟨(blk_cell (blk_alloc BK150.out _) 0).trans rfl, (blk_cell (blk_alloc BKM.out _) _).trans hkM.out⟩ (fun hHeld => ?_)
       clear hK K
       refine norm_ (a' := ?_) ?_ ?_
       rotate_left
       ·show Act.put _ (some 52) _ = _
        simp only [pt_, pn_, sI_, s0_, s1_, i64_w, i32_w]
        rfl
       refine oN_ 16 (some 53) (mk_ 19 131071) (fun K hK => ?_)
       have hT1 := HO158.out.1
       have hT2 : ∀ k, (.slice (some ⟨go13, 0, none⟩) y156.length co13 : Value).ownBlock = some k → w.heap.size ≤ k := Kd.R_base HO158.out
       refine Kd.S_append_step k43 (w0 := w) b0 (by rfl) (.tmp 48) (.tmp 52) 44 43 (.agg #[(.int .i64 0), (.slice none 0 0)]) 32 rfl Try.underlying44 info43 rfl (by decide) (by omega) (.slice Ae (rd_L3 l0_0 a2).length ce) (rd_L3 l0_0 a2) (⟨a3, y160⟩ : S43) [.int .i64 a3, .slice (some ⟨go13, 0, none⟩) y156.length co13] (fun k_ => oki k_ ∨ (w.heap.size ≤ k_ ∧ some k_ ≠ (.slice (some ⟨go10, 0, none⟩) t151.length co10 : Value).ownBlock)) (fun k_ => some k_ = (.slice (some ⟨go13, 0, none⟩) y156.length co13 : Value).ownBlock) rfl rfl ?aP ?aK ?aF ?aO ?aB ?aS ?aL ?_
       (case aP => exact k43_mkM _ _ _ (⟨a3, y160⟩ : S43) (Kd.R_mono (Kd.R_tight rfl (Kd.R_lower HO158.out hb0w.out)) (fun _ h_ => h_)))
       (case aK => exact fun k hk => ⟨.inr ⟨hT2 k hk.symm, by have h1 := hT1 k hk.symm; first | exact h1.2.1 | exact h1.2 | exact h1.1 | exact h1.1.2 | exact h1⟩, fun e => absurd (hT2 k hk.symm) (Nat.not_le.2 (HRW.out k e.symm).2)⟩)
       (case aF => exact fun k hk => .inr ⟨Nat.le_trans hbs_ hk, fun e => Nat.not_le.2 (Kd.R_lt HO153.out k e.symm) hk⟩)
       (case aO => exact Kd.S_mono HSe.out (fun k hk => ⟨.inl hk, fun e => absurd (hT2 k e.symm) (Nat.not_le.2 (HOK.out k hk).1.2)⟩))
       (case aB => exact HB.out.mono hb0w.out)
       (case aS => exact Nat.le_trans hb0w.out hbs_)
       (case aL => have := LMcP.out; omega)
       intro vP wP ho hb hg hat
       rw [← NyP.out] at ho
       have hnb : ∀ {g t : Nat} {cs : Array Value}, wR.heap[g]? = some (.cells cs t (0, 0)) → t ≠ 43 → some g ≠ (Value.slice Ae (rd_L3 l0_0 a2).length ce).ownBlock := fun hb_ ht => Kd.S_ne HSe.out hb_ (Ne.symm ht)
       have HKP : Aside0 (Kept w wP P0_0_) := ⟨Kept.of_grown hg (Kept.of_below HB.out P0_0_) (fun k e => .inl (HRW.out k e).1)⟩
       have BK150n := aM_ (blk_grown BK150.out hg (hnb BK150.out (by decide)))
       have BKMn := aM_ (blk_grown BKM.out hg (hnb BKM.out (by decide)))
       have HO153n := aM_ (Kd.R_mono (Kd.R_grown (Kd.R_bound HO153.out) hg (fun k hk e => absurd hk.2.1 (Nat.not_le.2 (HRW.out k e.symm).2))) (fun _ hk => hk.1))
       clear hT1 hT2 hnb
       clear BK150 BKM HO153 HB HSm
       have BK150 := BK150n
       have BKM := BKMn
       have HO153 := HO153n
       clear BK150n BKMn HO153n
       obtain ⟨An, cn, rfl⟩ := Kd.S_slice ho
       have HP := aM_ ho
       have HBP : Aside0 (Below b0 w wP) := ⟨hb⟩
       have HG := aM_ hg
       clear ho hb hg hat
       refine hK.out _ _ ⟨(blk_cell (BK150.out) 0).trans rfl, (blk_cell (BKM.out) _).trans hkM.out⟩ (fun hHeld => ?_)
       clear hK K
       refine norm_ (a' := ?_) ?_ ?_
       rotate_left
       ·show Act.put _ (some 53) _ = _
        simp only [pt_, pn_, sI_, s0_, s1_, i64_w, i32_w]
        rfl
       refine pU_ 17 (some 54) (mk_ 19 262143) ?_
       refine last_ (i := 18) (N := none) #[true, true, true, true, true, true, true, true, true, true, true, true, true, true, true, true, true, true, true] rfl rfl (by kernel_rfl) (by decide) (fun K hK => ?_)
       have hsM : wP.cell? ⟨gM, (a2).toNat, none⟩ = some (.slice Ae (rd_L3 l0_0 a2).length ce) := (blk_cell BKM.out _).trans hkM.out
       have hfM := blk_frozen BKM.out (a2).toNat
       refine skip_ (w1 := ?_) (by rfl) rfl ?_ ?_
       rotate_left
       ·go_simp
        rfl
       refine hK.out _ _ ?_
       clear hK K
       refine done_ (by kernel_rfl) ?_
       have HSn := aM_ (HBK.out wP (.slice An yP.length cn) yP (fun k_ => w.heap.size ≤ k_ ∧ some k_ ≠ (.slice (some ⟨go10, 0, none⟩) t151.length co10 : Value).ownBlock) HG.out HP.out (fun k hk => ⟨fun h => Nat.not_le.2 h.2 hk.1, fun e => absurd (e ▸ hk.1) (Nat.not_le.2 HGM.out)⟩))
       replace BK150 := aM_ (blk_far (p := ⟨gM, (a2).toNat, none⟩) BK150.out (by intro e_; have h_ := BK150.out; rw [show _ = gM from e_, BKM.out] at h_; simp at h_) (.slice An yP.length cn))
       replace HO153 := aM_ (Kd.R_mono (Kd.R_far (p := ⟨gM, (a2).toNat, none⟩) (Kd.R_bound HO153.out) (fun k hk e => absurd hk.2.1 (Nat.not_le.2 (show k < w.heap.size from (show k = gM from e) ▸ HGM.out))) (.slice An yP.length cn)) (fun _ hk => hk.1))
       replace HKP := aM_ (HKP.out.setCell (p := ⟨gM, (a2).toNat, none⟩) (.inl ((Kd.S_R hS.out).1 gM rfl)) (.slice An yP.length cn))
       replace HBP : Aside0 (Below b0 w (wP.setCell ⟨gM, (a2).toNat, none⟩ (.slice An yP.length cn))) := ⟨HBP.out.setCell (Kd.S_base hS.out gM rfl) _⟩
       clear hsM hfM HG HP HBK HSe BKM hkM HOK HRW hHeld
       generalize (wP.setCell ⟨gM, (a2).toNat, none⟩ (.slice An yP.length cn)) = wQ at HSn HKP HBP BK150 HO153 ⊢
       go_wp2
       go_ret
       exact ⟨_, by first | rfl | (simp [*]; done), BK150.out, Kd.S_mono HSn.out (fun k hk => hk.elim (fun h => ⟨.inl h.1, fun e => absurd (Kd.R_base HO153.out k e.symm) (Nat.not_le.2 h.2)⟩) (fun h => ⟨.inr h.1, h.2⟩)), Kd.R_mono (Kd.R_bound HO153.out) (fun _ hk => hk.2.1), HBP.out, HKP.out⟩
     ·rw [if_neg c12] at H
      exact absurd H (by simp)
    ·rw [if_neg c11] at H
     exact absurd H (by simp)
   ·rw [if_neg c9] at H
    exact absurd H (by simp)
  ·rw [if_neg c8] at H
   exact absurd H (by simp)
 ·rw [if_neg c7] at H
  exact absurd H (by simp)
end Go.Proofs.Ythbcnakmnbilhaa.PFnMessage
