/- A part of the proof that the law FnExactSwap holds for every input: the words, functions and walks that its row needs, without a condition of their own. -/
import Derived.Test.YthbcnakmnbilhaaZFnExactSwapa2
import Derived.Test.YthbcnakmnbilhaaZFnExactSwapa3
import Derived.Test.YthbcnakmnbilhaaZFnExactSwapa6
import Derived.Test.YthbcnakmnbilhaaZFnExactSwaps
namespace Go.Proofs.Ythbcnakmnbilhaa.PFnExactSwap
open Go.RowKit Go.Proofs.YthbcnakmnbilhaaW.PrintWords Go.Proofs.YthbcnakmnbilhaaW.PrintLast Go.Proofs.YthbcnakmnbilhaaW.PrintMore Go.Proofs.Ythbcnakmnbilhaa.SepMark
attribute [local go_sem] max2_int min2_int max_two min_two max_three min_three max_four min_four   -- for this text's walks alone
set_option linter.unusedVariables false
set_option linter.unusedSimpArgs false
mutual
def impl_copyMemory.l0 : Nat → List (List (S43)) → Int → Int → List (List (S43)) → Option ((List (List (S43))))
  | 0, _, _, _, _ => none
  | k + 1, x11, x12, x13, x187000 => if x13 < x12 then (if 0 ≤ x13 then (if x13 < (x11.length : Int) then (impl_copyMemory.l1 k (([] : List (S43))) x11 x12 x13 (rd_L3 x11 x13) ((rd_L3 x11 x13).length : Int) 0 x187000) else (none)) else (none)) else (some x187000)
def impl_copyMemory.l1 : Nat → List (S43) → List (List (S43)) → Int → Int → List (S43) → Int → Int → List (List (S43)) → Option ((List (List (S43))))
  | 0, _, _, _, _, _, _, _, _ => none
  | k + 1, x6, x11, x12, x13, x18, x19, x20, x187000 => if x20 < x19 then (if 0 ≤ x20 then (if x20 < (x18.length : Int) then ((impl_copyInts.f ((rd_T43 x18 x20).f1)).bind fun t193 => (if x6.length < 4398046511104 then (impl_copyMemory.l1 k (x6 ++ [(⟨(rd_T43 x18 x20).f0, t193⟩ : S43)]) x11 x12 x13 x18 x19 (wrap64 (x20 + 1)) x187000) else (none))) else (none)) else (none)) else (if x187000.length < 5864062014805 then (impl_copyMemory.l0 k x11 x12 (wrap64 (x13 + 1)) (x187000 ++ [x6])) else (none))
end
def impl_copyMemory.f (k : Nat) (l0_0 : List (List (S43))) : Option ((List (List (S43)))) := impl_copyMemory.l0 k l0_0 (l0_0.length : Int) 0 ([] : List (List (S43)))
def impl_copyMemory.T9 : Bool × List (List Nat × List Nat) := (true, [([], []), ([], []), ([1], [1]), ([], []), ([3], [3]), ([4], [4]), ([2, 5], [2, 5]), ([6], [6]), ([0, 7, 5], [0, 7]), ([8, 8, 0, 1, 2, 3, 4, 5, 6, 7, 8], [0, 8])])
def impl_copyMemory.B9 : List Nat := [0, 0, 2, 0, 8, 24, 62, 126, 255, 511]
theorem impl_copyMemory.tab9 : rtab .any (opsOf Try.f55 9) = impl_copyMemory.T9 := by kernel_rfl
theorem impl_copyMemory.bits9 : waitsOk impl_copyMemory.T9.2 impl_copyMemory.B9 = true := by kernel_rfl
set_option maxHeartbeats 8000000 in
set_option maxRecDepth 100000 in
theorem impl_copyMemory.calls (k : Nat) (A0_0 : Option Addr) (c0_0 : Nat) (l0_0 : List (List (S43))) (r : List (List (S43))) (w00 : World) (hr0_0 : Kd.C (Kd.slice 43 k43) w00 A0_0 l0_0.length l0_0) (hc0_0 : l0_0.length ≤ c0_0) (h : impl_copyMemory.f k l0_0 = some r) :
  Calls Try.prog 55 #[.agg #[.slice A0_0 l0_0.length c0_0]] w00 fun e w' => ∃ v0_ : Value, e = .returned (.agg #[v0_]) ∧ Kd.S (sslice 43 k43) 44 w' w00.heap.size (fun _ => True) v0_ r ∧ Below w00.heap.size w00 w' := by
 have hu24 := Try.underlying24
 have hu43 := Try.underlying43
 have HR0_0 := aM_ hr0_0
 have HC0_0 := aM_ hc0_0
 clear hr0_0 hc0_0
 have HB := aM_ (Below.refl w00.heap.size w00)
 have H : (impl_copyMemory.l0 k l0_0 (l0_0.length : Int) 0 ([] : List (List (S43)))) = some r := h
 clear h
 have H' := aM_ H
 clear H
 go_enter Try.func55, Try.ntmps55
 go_wp2_with (first | ((with_reducible refine gate_dst (N := 1) rfl ?_); refine bX_ 1 (cs := #[.slice A0_0 l0_0.length c0_0]) (t := 24) ?_; intro gb184 hg w2 hbox hb; have n0 := aM_ (sT_ HB.out hb); have n1 := aM_ (hbox); have n2 := aM_ ((by rw [hg]; exact (below_size (gB_ HB.out)) : w00.heap.size ≤ gb184)); have n3 := aM_ ((by rw [hg]; exact (below_size (gB_ HB.out)) : w00.heap.size ≤ gb184)); clear HB; have HB := n0; have BK184 := n1; have GW184 := n2; have GE184 := n3; clear n0 n1 n2 n3; clear hb hbox hg) | ((with_reducible refine gate_dst (N := 2) rfl ?_); refine bX_ 2 (cs := #[.slice none 0 0]) (t := 24) ?_; intro gb185 hg w3 hbox hb; have n0 := aM_ (nB_ BK184.out hb); have n1 := aM_ (sT_ HB.out hb); have n2 := aM_ (hbox); have n3 := aM_ ((by rw [hg]; exact (below_size (gB_ HB.out)) : w00.heap.size ≤ gb185)); have n4 := aM_ ((by rw [hg]; exact (below_size (gB_ HB.out)) : w00.heap.size ≤ gb185)); have n5 := aM_ (nL_ hg BK184.out); have n6 := aM_ (nG_ hg BK184.out); clear BK184; clear HB; have BK184 := n0; have HB := n1; have BK185 := n2; have GW185 := n3; have GE185 := n4; have NB184_185 := n5; have NB185_184 := n6; clear n0 n1 n2 n3 n4 n5 n6; clear hb hbox hg) | ((with_reducible refine gate_dst (N := 3) rfl ?_); refine bX_ 3 (cs := #[.slice none 0 0]) (t := 24) ?_; intro gb186 hg w4 hbox hb; have n0 := aM_ (nB_ BK184.out hb); have n1 := aM_ (nB_ BK185.out hb); have n2 := aM_ (sT_ HB.out hb); have n3 := aM_ (hbox); have n4 := aM_ ((by rw [hg]; exact (below_size (gB_ HB.out)) : w00.heap.size ≤ gb186)); have n5 := aM_ ((by rw [hg]; exact (below_size (gB_ HB.out)) : w00.heap.size ≤ gb186)); have n6 := aM_ (nL_ hg BK184.out); have n7 := aM_ (nG_ hg BK184.out); have n8 := aM_ (nL_ hg BK185.out); have n9 := aM_ (nG_ hg BK185.out); clear BK184; clear BK185; clear HB; have BK184 := n0; have BK185 := n1; have HB := n2; have BK186 := n3; have GW186 := n4; have GE186 := n5; have NB184_186 := n6; have NB186_184 := n7; have NB185_186 := n8; have NB186_185 := n9; clear n0 n1 n2 n3 n4 n5 n6 n7 n8 n9; clear hb hbox hg; have hnb5 := NB186_184.out; have hnc5 := NB184_186.out; have hnb6 := NB186_185.out; have hnc6 := NB185_186.out; have hcz7_0 : w4.cell? ⟨gb186, 0, none⟩ = some (.slice none 0 0) := (blk_cell BK186.out 0).trans rfl; have hfz7_0 := blk_frozen BK186.out 0; have hnb8 := NB184_185.out; have hnc8 := NB185_184.out; have hcz9_0 : w4.cell? ⟨gb184, 0, none⟩ = some (.slice A0_0 l0_0.length c0_0) := (blk_cell BK184.out 0).trans rfl; have hfz9_0 := blk_frozen BK184.out 0))
 go_loopg [13] k (fun kq v13 w' => ∃ (x13_1 : Int) (x1870_1 : List (List (S43))) (u1870 : Value), v13 = .int .i64 x13_1 ∧ Aside0 (impl_copyMemory.l0 kq l0_0 (l0_0.length : Int) x13_1 x1870_1 = some r) ∧ Aside0 (kq ≤ k) ∧ Aside0 (Kd.S (sslice 43 k43) 44 w' w00.heap.size (fun _ => True) u1870 x1870_1) ∧ Aside0 (w'.heap[gb184]? = some (.cells #[(.slice A0_0 l0_0.length c0_0)] 24 (0, 0))) ∧ Aside0 (w'.heap[gb185]? = some (.cells #[(.slice none 0 0)] 24 (0, 0))) ∧ Aside0 (w'.heap[gb186]? = some (.cells #[u1870] 24 (0, 0))) ∧ Aside0 (Below w00.heap.size w00 w'))
 case atStart => exact ⟨(0), (([] : List (List (S43)))), (.slice none 0 0), (by first | rfl | (simp; done) | (simp [*]; done)), H', ⟨Nat.le_refl _⟩, ⟨by first | exact Kd.R_nil _ _ _ _ _ | exact Kd.N_nil _ _ _ _ _ | exact Kd.V_nil _ _ _ _ _ | exact Kd.Q_nil _ _ _ _ _ | exact Kd.S_nil _ _ _ _ _⟩, ⟨by (with_reducible repeat (first | refine bN_ ?_ _ | refine bD_ ?_ | refine bA_ ?_ _)); refine blk_far ?_ NB184_186.out _; (with_reducible repeat (first | refine bN_ ?_ _ | refine bD_ ?_ | refine bA_ ?_ _)); exact BK184.out⟩, ⟨by (with_reducible repeat (first | refine bN_ ?_ _ | refine bD_ ?_ | refine bA_ ?_ _)); refine blk_far ?_ NB185_186.out _; (with_reducible repeat (first | refine bN_ ?_ _ | refine bD_ ?_ | refine bA_ ?_ _)); exact BK185.out⟩, ⟨by (with_reducible repeat (first | refine bN_ ?_ _ | refine bD_ ?_ | refine bA_ ?_ _)); refine blk_put (cs := #[.slice none 0 0]) ?_ 0 _ rfl; (with_reducible repeat (first | refine bN_ ?_ _ | refine bD_ ?_ | refine bA_ ?_ _)); exact BK186.out⟩, ⟨gW_ HB.out⟩⟩
 case round =>
  clear H'
  try clear p2
  try clear c5
  try clear c6
  try clear c8
  try clear hcz7_0 hfz7_0
  try clear hcz9_0 hfz9_0
  obtain ⟨x13_1, x1870_1, u1870, rfl, HA, HK1, HO_187000, BK184, BK185, BK186, HB⟩ := hrel
  cases gk with
  | zero => exact absurd HA.out (by simp [impl_copyMemory.l0])
  | succ k1 =>
   have H := HA.out
   clear HA
   simp only [impl_copyMemory.l0] at H
   by_cases c10 : x13_1 < (l0_0.length : Int)
   ·rw [if_pos c10] at H
    have c10b0 : decide (x13_1 < (l0_0.length : Int)) = true := decide_eq_true c10
    clear c10
    by_cases c11 : 0 ≤ x13_1
    ·rw [if_pos c11] at H
     have c11b0 : decide (0 ≤ x13_1) = true := decide_eq_true c11
     clear c11
     by_cases c12 : x13_1 < (l0_0.length : Int)
     ·rw [if_pos c12] at H
      have c12b0 : decide (x13_1 < (l0_0.length : Int)) = true := decide_eq_true c12
      clear c12
      obtain ⟨w, hw⟩ : ∃ x, x = wr := ⟨wr, rfl⟩
      have HBo : Aside0 (Below w00.heap.size w00 w) := ⟨by rw [hw]; exact HB.out⟩
      have HSo : Aside0 (Kd.S (sslice 43 k43) 44 w w00.heap.size (fun _ => True) u1870 x1870_1) := ⟨by rw [hw]; exact HO_187000.out⟩
      have HF : Aside0 (∀ k, w.heap.size ≤ k → True ∧ some k ≠ (u1870 : Value).ownBlock) := ⟨fun k hk => ⟨trivial, fun e => Nat.not_le.2 (Kd.S_lt HSo.out k e.symm) hk⟩⟩
      replace HB : Aside0 (Below w.heap.size w wr) := ⟨by rw [hw]; exact Below.refl _ _⟩
      replace HR0_0 := aM_ (Kd.C_below HR0_0.out HBo.out)
      replace HO_187000 := aM_ (S_Rs HO_187000.out)
      clear hw
      obtain ⟨y188, hy188⟩ : ∃ y_ : List (S43), y_ = (([] : List (S43))) := ⟨_, rfl⟩
      replace H : (impl_copyMemory.l1 k1 y188 l0_0 (l0_0.length : Int) x13_1 (rd_L3 l0_0 x13_1) ((rd_L3 l0_0 x13_1).length : Int) 0 x1870_1) = some r := by first | (rw [hy188]; with_reducible exact H) | (have H2_ := (Option.bind_some _ _).symm.trans H; rw [hy188]; with_reducible exact H2_) | (have H2_ := (Option.bind_some _ _).symm.trans H; with_reducible exact H2_) | with_reducible exact H | (rw [hy188]; exact H) | exact H
      have Ny188 := aM_ hy188
      clear hy188
      have H' := aM_ H
      clear H
      have p187 : 0 ≤ (x13_1 : Int) := of_decide_eq_true (by first | (with_reducible assumption) | assumption)
      have q187 : x13_1 < (l0_0.length : Int) := of_decide_eq_true (by first | (with_reducible assumption) | assumption)
      obtain ⟨ad187, A187_0, c187_0, e187, hx187_0, hl187_0, hi187_0⟩ := at_L3 HR0_0.out x13_1 p187 q187
      cases e187
      replace hx187_0 := cB_ HB.out hx187_0
      have HR187_0 := aM_ hi187_0
      have HC187_0 := aM_ hl187_0
      clear hi187_0 hl187_0
      replace p187 := eq_true p187
      replace q187 := eq_true q187
      go_wp2_with (first | ((with_reducible refine gate_dst (N := 17) rfl ?_); refine Kd.S_lit k43 _ 43 ?hg (N := 17) ?hd (xs := ([] : List (S43))) (inner := []) (ok := fun _ => True) (okp := fun _ => True) ?hr ?hp (fun _ hk => hk) trivial (Below.refl _ _) (Nat.le_refl _) (by simp) ?_; (case hd => rfl); (case hg => rfl); (case hr => first | (go_simp; done) | (go_simp; rfl)); (case hp => exact (Reps.none _ _)); intro v189 w13 ho14 hb hg_ hnew_; clear hg_ hnew_; (first | rw [← Ny188.out] at ho14 | (simp only [Int.reduceToNat] at ho14; rw [← Ny188.out] at ho14)); have n0 := aM_ (Kd.R_elder' (by (with_reducible repeat (first | apply rA_ | apply rN_ | apply rD_)); exact HO_187000.out) (Kd.S_base ho14) hb); have n1 := aM_ (Kd.S_lower ho14 (below_size (gB_ HB.out))); have n2 := aM_ (nB_ BK184.out hb); have n3 := aM_ (nB_ BK185.out hb); have n4 := aM_ (nB_ BK186.out hb); have n5 := aM_ (sT_ HB.out hb); clear HO_187000; clear BK184; clear BK185; clear BK186; clear HB; have HO_187000 := n0; have HO190 := n1; have BK184 := n2; have BK185 := n3; have BK186 := n4; have HB := n5; clear n0 n1 n2 n3 n4 n5; clear hb ho14))
      go_loopg [6, 20] k1 (fun kq v6 v20 w' => ∃ (x6_2 : List (S43)) (x20_2 : Int), v20 = .int .i64 x20_2 ∧ Aside0 (impl_copyMemory.l1 kq x6_2 l0_0 (l0_0.length : Int) x13_1 (rd_L3 l0_0 x13_1) ((rd_L3 l0_0 x13_1).length : Int) x20_2 x1870_1 = some r) ∧ Aside0 (kq ≤ k1) ∧ Aside0 (Kd.S k43 43 w' w.heap.size (fun _ => True) v6 x6_2) ∧ Aside0 (Kd.R (Kd.slice 43 k43) 44 w' w00.heap.size (fun k_ => some k_ ≠ (v6 : Value).ownBlock) u1870 x1870_1) ∧ Aside0 (w'.heap[gb184]? = some (.cells #[(.slice (some ad187) l0_0.length c0_0)] 24 (0, 0))) ∧ Aside0 (w'.heap[gb185]? = some (.cells #[(.slice none 0 0)] 24 (0, 0))) ∧ Aside0 (w'.heap[gb186]? = some (.cells #[u1870] 24 (0, 0))) ∧ Aside0 (Below w.heap.size w w'))
      case atStart => exact ⟨(y188), (0), (by first | rfl | (simp; done) | (simp [*]; done)), H', ⟨Nat.le_refl _⟩, ⟨by (with_reducible repeat (first | apply Kd.S_alloc | apply Kd.S_drewN | apply Kd.S_drew)); exact HO190.out⟩, ⟨by (with_reducible repeat (first | apply rA_ | apply rN_ | apply rD_)); exact Kd.R_mono HO_187000.out (fun _ hk => hk.2)⟩, ⟨rW_ BK184.out⟩, ⟨rW_ BK185.out⟩, ⟨rW_ BK186.out⟩, ⟨gW_ HB.out⟩⟩
      case round =>
       clear H'
       try clear c1
       try clear p1
       try clear q1
       try clear hx1
       try clear p2
       try clear c5
       try clear c6
       try clear c8
       try clear c10
       try clear c10b0
       try clear c11
       try clear c11b0
       try clear c12
       try clear c12b0
       try clear hcz7_0 hfz7_0
       try clear hcz9_0 hfz9_0
       try clear hx187_0
       try clear p187
       try clear p2
       try clear q187
       obtain ⟨x6_2, x20_2, rfl, HA, HK2, HO_6, HO_187000, BK184, BK185, BK186, HB⟩ := hrel
       cases gk with
       | zero => exact absurd HA.out (by simp [impl_copyMemory.l1])
       | succ k2 =>
        have H := HA.out
        clear HA
        simp only [impl_copyMemory.l1] at H
        by_cases c15 : x20_2 < ((rd_L3 l0_0 x13_1).length : Int)
        ·rw [if_pos c15] at H
         have c15b0 : decide (x20_2 < ((rd_L3 l0_0 x13_1).length : Int)) = true := decide_eq_true c15
         clear c15
         by_cases c16 : 0 ≤ x20_2
         ·rw [if_pos c16] at H
          have c16b0 : decide (0 ≤ x20_2) = true := decide_eq_true c16
          clear c16
          by_cases c17 : x20_2 < ((rd_L3 l0_0 x13_1).length : Int)
          ·rw [if_pos c17] at H
           have c17b0 : decide (x20_2 < ((rd_L3 l0_0 x13_1).length : Int)) = true := decide_eq_true c17
           clear c17
           replace H := Option.bind_eq_some_iff.mp H
           obtain ⟨t193, A180, H⟩ := H
           replace H : (if x6_2.length < 4398046511104 then (impl_copyMemory.l1 k2 (x6_2 ++ [(⟨(rd_T43 (rd_L3 l0_0 x13_1) x20_2).f0, t193⟩ : S43)]) l0_0 (l0_0.length : Int) x13_1 (rd_L3 l0_0 x13_1) ((rd_L3 l0_0 x13_1).length : Int) (wrap64 (x20_2 + 1)) x1870_1) else (none)) = some r := H
           have A18 := aM_ A180
           clear A180
           by_cases c19 : x6_2.length < 4398046511104
           ·rw [if_pos c19] at H
            have LMc19 := aM_ c19
            clear c19
            obtain ⟨y196, hy196⟩ : ∃ y_ : List (S43), y_ = (x6_2 ++ [(⟨(rd_T43 (rd_L3 l0_0 x13_1) x20_2).f0, t193⟩ : S43)]) := ⟨_, rfl⟩
            replace H : (impl_copyMemory.l1 k2 y196 l0_0 (l0_0.length : Int) x13_1 (rd_L3 l0_0 x13_1) ((rd_L3 l0_0 x13_1).length : Int) (wrap64 (x20_2 + 1)) x1870_1) = some r := by first | (rw [hy196]; with_reducible exact H) | (have H2_ := (Option.bind_some _ _).symm.trans H; rw [hy196]; with_reducible exact H2_) | (have H2_ := (Option.bind_some _ _).symm.trans H; with_reducible exact H2_) | with_reducible exact H | (rw [hy196]; exact H) | exact H
            have Ny196 := aM_ hy196
            clear hy196
            have H' := aM_ H
            clear H
            have p191 : 0 ≤ (x20_2 : Int) := of_decide_eq_true (by first | (with_reducible assumption) | assumption)
            have q191 : x20_2 < ((rd_L3 l0_0 x13_1).length : Int) := of_decide_eq_true (by first | (with_reducible assumption) | assumption)
            obtain ⟨ad191, A191_1, c191_1, e191, hx191_0, hx191_1, hl191_1, hi191_1⟩ := at_T43 HR187_0.out x20_2 p191 q191
            cases e191
            replace hx191_0 := cB_ HB.out hx191_0
            replace hx191_1 := cB_ HB.out hx191_1
            have HR191_1 := aM_ hi191_1
            have HC191_1 := aM_ hl191_1
            clear hi191_1 hl191_1
            replace p191 := eq_true p191
            replace q191 := eq_true q191
            try go_wp2_with (first | ((with_reducible refine gate_dst (N := 8) rfl ?_); refine bX_ 8 (cs := #[.int .i64 0, .slice none 0 0]) (t := 43) ?_; intro gb192 hg w20 hbox hb; have n0 := aM_ (Kd.S_below (Kd.S_elderB (by (with_reducible repeat (first | apply Kd.S_alloc | apply Kd.S_drewN | apply Kd.S_drew)); exact HO_6.out) gb192 (Nat.le_of_eq hg.symm)) hb); have n1 := aM_ (Kd.R_below (Kd.R_elderB (by (with_reducible repeat (first | apply rA_ | apply rN_ | apply rD_)); exact HO_187000.out) gb192 (Nat.le_of_eq hg.symm)) hb); have n2 := aM_ (nB_ BK184.out hb); have n3 := aM_ (nB_ BK185.out hb); have n4 := aM_ (nB_ BK186.out hb); have n5 := aM_ (sT_ HB.out hb); have n6 := aM_ (hbox); have n7 := aM_ (sZ_ hg HB.out); have n8 := aM_ (sZ_ hg HB.out); have n9 := aM_ (nL_ hg BK184.out); have n10 := aM_ (nG_ hg BK184.out); have n11 := aM_ (nL_ hg BK185.out); have n12 := aM_ (nG_ hg BK185.out); have n13 := aM_ (nL_ hg BK186.out); have n14 := aM_ (nG_ hg BK186.out); clear HO_6; clear HO_187000; clear BK184; clear BK185; clear BK186; clear HB; have HO_6 := n0; have HO_187000 := n1; have BK184 := n2; have BK185 := n3; have BK186 := n4; have HB := n5; have BK192 := n6; have GW192 := n7; have GE192 := n8; have NB184_192 := n9; have NB192_184 := n10; have NB185_192 := n11; have NB192_185 := n12; have NB186_192 := n13; have NB192_186 := n14; clear n0 n1 n2 n3 n4 n5 n6 n7 n8 n9 n10 n11 n12 n13 n14; clear hb hbox hg; have hnb21 := NB192_184.out; have hnc21 := NB184_192.out; have hnb22 := NB192_185.out; have hnc22 := NB185_192.out; have hnb23 := NB192_186.out; have hnc23 := NB186_192.out; obtain ⟨hcz24_0, hcz24_1, hfz24_0, hfz24_1⟩ := bR2_ BK192.out))
            have n0 : Aside0 (Kd.S k43 43 ((w20.setCell ⟨gb192, 0, none⟩ (.int .i64 ((rd_T43 (rd_L3 l0_0 x13_1) x20_2).f0))).setCell ⟨gb192, 1, none⟩ (.slice A191_1 ((rd_T43 (rd_L3 l0_0 x13_1) x20_2).f1).length c191_1)) w.heap.size (fun k_ => k_ ≠ gb192) u6 x6_2) := ⟨by (with_reducible repeat (first | apply Kd.S_alloc | apply Kd.S_drewN | apply Kd.S_drew)); exact Kd.S_mono (Kd.S_far (p := ⟨gb192, 1, none⟩) (Kd.S_far (p := ⟨gb192, 0, none⟩) (Kd.S_mono HO_6.out (fun k_ hk => (⟨hk, hk.2⟩ : _ ∧ k_ ≠ gb192))) (fun _ hk => hk.2) (.int .i64 ((rd_T43 (rd_L3 l0_0 x13_1) x20_2).f0))) (fun _ hk => hk.2) (.slice A191_1 ((rd_T43 (rd_L3 l0_0 x13_1) x20_2).f1).length c191_1)) (fun _ hk => hk.1.2)⟩
            have n1 : Aside0 (Kd.R (Kd.slice 43 k43) 44 ((w20.setCell ⟨gb192, 0, none⟩ (.int .i64 ((rd_T43 (rd_L3 l0_0 x13_1) x20_2).f0))).setCell ⟨gb192, 1, none⟩ (.slice A191_1 ((rd_T43 (rd_L3 l0_0 x13_1) x20_2).f1).length c191_1)) w00.heap.size (fun k_ => some k_ ≠ (u6 : Value).ownBlock ∧ k_ ≠ gb192) u1870 x1870_1) := ⟨by (with_reducible repeat (first | apply rA_ | apply rN_ | apply rD_)); exact Kd.R_mono (Kd.R_far (p := ⟨gb192, 1, none⟩) (Kd.R_far (p := ⟨gb192, 0, none⟩) (Kd.R_mono HO_187000.out (fun k_ hk => (⟨hk, hk.2⟩ : _ ∧ k_ ≠ gb192))) (fun _ hk => hk.2) (.int .i64 ((rd_T43 (rd_L3 l0_0 x13_1) x20_2).f0))) (fun _ hk => hk.2) (.slice A191_1 ((rd_T43 (rd_L3 l0_0 x13_1) x20_2).f1).length c191_1)) (fun _ hk => ⟨hk.1.1, hk.1.2⟩)⟩
            have n2 : Aside0 (((w20.setCell ⟨gb192, 0, none⟩ (.int .i64 ((rd_T43 (rd_L3 l0_0 x13_1) x20_2).f0))).setCell ⟨gb192, 1, none⟩ (.slice A191_1 ((rd_T43 (rd_L3 l0_0 x13_1) x20_2).f1).length c191_1)).heap[gb184]? = some (.cells #[.slice (some ad187) l0_0.length c0_0] 24 (0, 0))) := ⟨by (with_reducible repeat (first | refine bN_ ?_ _ | refine bD_ ?_ | refine bA_ ?_ _)); refine blk_far ?_ NB184_192.out _; (with_reducible repeat (first | refine bN_ ?_ _ | refine bD_ ?_ | refine bA_ ?_ _)); refine blk_far ?_ NB184_192.out _; (with_reducible repeat (first | refine bN_ ?_ _ | refine bD_ ?_ | refine bA_ ?_ _)); exact BK184.out⟩
            have n3 : Aside0 (((w20.setCell ⟨gb192, 0, none⟩ (.int .i64 ((rd_T43 (rd_L3 l0_0 x13_1) x20_2).f0))).setCell ⟨gb192, 1, none⟩ (.slice A191_1 ((rd_T43 (rd_L3 l0_0 x13_1) x20_2).f1).length c191_1)).heap[gb185]? = some (.cells #[.slice none 0 0] 24 (0, 0))) := ⟨by (with_reducible repeat (first | refine bN_ ?_ _ | refine bD_ ?_ | refine bA_ ?_ _)); refine blk_far ?_ NB185_192.out _; (with_reducible repeat (first | refine bN_ ?_ _ | refine bD_ ?_ | refine bA_ ?_ _)); refine blk_far ?_ NB185_192.out _; (with_reducible repeat (first | refine bN_ ?_ _ | refine bD_ ?_ | refine bA_ ?_ _)); exact BK185.out⟩
            have n4 : Aside0 (((w20.setCell ⟨gb192, 0, none⟩ (.int .i64 ((rd_T43 (rd_L3 l0_0 x13_1) x20_2).f0))).setCell ⟨gb192, 1, none⟩ (.slice A191_1 ((rd_T43 (rd_L3 l0_0 x13_1) x20_2).f1).length c191_1)).heap[gb186]? = some (.cells #[u1870] 24 (0, 0))) := ⟨by (with_reducible repeat (first | refine bN_ ?_ _ | refine bD_ ?_ | refine bA_ ?_ _)); refine blk_far ?_ NB186_192.out _; (with_reducible repeat (first | refine bN_ ?_ _ | refine bD_ ?_ | refine bA_ ?_ _)); refine blk_far ?_ NB186_192.out _; (with_reducible repeat (first | refine bN_ ?_ _ | refine bD_ ?_ | refine bA_ ?_ _)); exact BK186.out⟩
            have n5 : Aside0 (((w20.setCell ⟨gb192, 0, none⟩ (.int .i64 ((rd_T43 (rd_L3 l0_0 x13_1) x20_2).f0))).setCell ⟨gb192, 1, none⟩ (.slice A191_1 ((rd_T43 (rd_L3 l0_0 x13_1) x20_2).f1).length c191_1)).heap[gb192]? = some (.cells #[.int .i64 ((rd_T43 (rd_L3 l0_0 x13_1) x20_2).f0), .slice A191_1 ((rd_T43 (rd_L3 l0_0 x13_1) x20_2).f1).length c191_1] 43 (0, 0))) := ⟨by (with_reducible repeat (first | refine bN_ ?_ _ | refine bD_ ?_ | refine bA_ ?_ _)); refine blk_put (cs := #[.int .i64 ((rd_T43 (rd_L3 l0_0 x13_1) x20_2).f0), .slice none 0 0]) ?_ 1 _ rfl; refine blk_put (cs := #[.int .i64 0, .slice none 0 0]) ?_ 0 _ rfl; (with_reducible repeat (first | refine bN_ ?_ _ | refine bD_ ?_ | refine bA_ ?_ _)); exact BK192.out⟩
            have n6 : Aside0 (Below w.heap.size w ((w20.setCell ⟨gb192, 0, none⟩ (.int .i64 ((rd_T43 (rd_L3 l0_0 x13_1) x20_2).f0))).setCell ⟨gb192, 1, none⟩ (.slice A191_1 ((rd_T43 (rd_L3 l0_0 x13_1) x20_2).f1).length c191_1))) := ⟨gW_ HB.out⟩
            (try clear HO_6)
            (try clear HO_187000)
            (try clear BK184)
            (try clear BK185)
            (try clear BK186)
            (try clear BK192)
            (try clear HB)
            generalize ((w20.setCell ⟨gb192, 0, none⟩ (.int .i64 ((rd_T43 (rd_L3 l0_0 x13_1) x20_2).f0))).setCell ⟨gb192, 1, none⟩ (.slice A191_1 ((rd_T43 (rd_L3 l0_0 x13_1) x20_2).f1).length c191_1)) = w25 at n0 n1 n2 n3 n4 n5 n6 ⊢
            have HO_6 := n0
            have HO_187000 := n1
            have BK184 := n2
            have BK185 := n3
            have BK186 := n4
            have BK192 := n5
            have HB := n6
            clear n0 n1 n2 n3 n4 n5 n6
            have n0 := aM_ (Kd.S_drew HO_6.out)
            have n1 := aM_ (Kd.R_drew HO_187000.out)
            have n2 := aM_ (blk_drew BK184.out)
            have n3 := aM_ (blk_drew BK185.out)
            have n4 := aM_ (blk_drew BK186.out)
            have n5 := aM_ (blk_drew BK192.out)
            have n6 := aM_ (below_drew1 HB.out)
            clear HO_6
            clear HO_187000
            clear BK184
            clear BK185
            clear BK186
            clear BK192
            clear HB
            have HO_6 := n0
            have HO_187000 := n1
            have BK184 := n2
            have BK185 := n3
            have BK186 := n4
            have BK192 := n5
            have HB := n6
            clear n0 n1 n2 n3 n4 n5 n6
            refine start_ (n := 10) (S := fun w' => w'.cell? ⟨gb192, 0, none⟩ = some (.int .i64 ((rd_T43 (rd_L3 l0_0 x13_1) x20_2).f0)) ∧ w'.cell? ⟨gb192, 1, none⟩ = some (.slice A191_1 ((rd_T43 (rd_L3 l0_0 x13_1) x20_2).f1).length c191_1)) (ds := []) (mk_ 10 0) (by kernel_rfl) rfl rfl (bC2_ BK192.out) (fun hHeld => ?_); refine with_tabW impl_copyMemory.tab9 impl_copyMemory.bits9 (fun HT_ HW_ => ?_)
            generalize w25.drew = w26 at HO_6 HO_187000 BK184 BK185 BK186 BK192 HB hHeld ⊢
            refine pU_ 0 (some 24) (mk_ 10 1) ?_
            refine pU_ 1 (some 25) (mk_ 10 3) ?_
            refine pU_ 3 (some 27) (mk_ 10 11) ?_
            refine tK2_ 2 (some 26) (mk_ 10 15) ?_
            refine tK2_ 4 (some 28) (mk_ 10 31) ?_
            refine oN_ 5 (some 29) (mk_ 10 63) (fun K hK => ?_)
            refine gO_ Try.func58 #[.slice A191_1 ((rd_T43 (rd_L3 l0_0 x13_1) x20_2).f1).length c191_1] ?_
            with_reducible refine (impl_copyInts.calls _ _ ((rd_T43 (rd_L3 l0_0 x13_1) x20_2).f1) t193 _ ?side1 ?side2 A18.out).mono ?_
            (case side1 => exact cS_ (Kd.C_below HR191_1.out HB.out))
            (case side2 => exact HC191_1.out)
            rintro e w27 ⟨v194, rfl, ho0, hb⟩
            refine ⟨_, rfl, ?_⟩
            have n0 := aM_ (Kd.S_elder' (by (with_reducible repeat (first | apply Kd.S_alloc | apply Kd.S_drewN | apply Kd.S_drew)); exact HO_6.out) (Kd.R_base ho0) hb)
            have n1 := aM_ (Kd.R_elder' (by (with_reducible repeat (first | apply rA_ | apply rN_ | apply rD_)); exact HO_187000.out) (Kd.R_base ho0) hb)
            have n2 := aM_ (Kd.R_lower ho0 (below_size (gB_ HB.out)))
            have n3 := aM_ (nB_ BK184.out hb)
            have n4 := aM_ (nB_ BK185.out hb)
            have n5 := aM_ (nB_ BK186.out hb)
            have n6 := aM_ (nB_ BK192.out hb)
            have n7 := aM_ (sT_ HB.out hb)
            clear HO_6
            clear HO_187000
            clear BK184
            clear BK185
            clear BK186
            clear BK192
            clear HB
            have HO_6 := n0
            have HO_187000 := n1
            have HO195 := n2
            have BK184 := n3
            have BK185 := n4
            have BK186 := n5
            have BK192 := n6
            have HB := n7
            clear n0 n1 n2 n3 n4 n5 n6 n7
            (try clear hb)
            (try clear hb2)
            (try clear hk)
            (try clear hi)
            (try clear ho0)
            obtain ⟨Ao28, co28, eo28⟩ := Kd.R_slice HO195.out
            (first | subst eo28 | (injection eo28 with f1_ f2_ f3_; have f4_ := f1_.symm; have f5_ := f3_.symm; clear f1_ f2_ f3_; subst f4_; subst f5_))
            refine hK.out _ _ (bC2_ BK192.out) (fun hHeld => ?_)
            clear hK K
            refine norm_ (a' := ?_) ?_ ?_
            rotate_left
            ·show Act.put _ (some 29) _ = _
             simp only [pt_, pn_, sI_, s0_, s1_, i64_w, i32_w]
             rfl
            refine pU_ 6 (some 30) (mk_ 10 127) ?_
            refine oN_ 7 (some 31) (mk_ 10 255) (fun K hK => ?_)
            refine value_ (w1 := ?_) (v := ?_) (by rfl) rfl ?_ ?_
            rotate_left 2
            ·go_simp
             constructor
             ·rfl
             ·rfl
            refine hK.out _ _ ⟨(blk_cell (blk_alloc BK192.out _) 0).trans rfl, (blk_cell (blk_alloc BK192.out _) 1).trans rfl⟩ (fun hHeld => ?_)
            clear hK K
            refine norm_ (a' := ?_) ?_ ?_
            rotate_left
            ·show Act.put _ (some 31) _ = _
             simp only [pt_, pn_, sI_, s0_, s1_, i64_w, i32_w]
             rfl
            refine oN_ 8 (some 32) (mk_ 10 511) (fun K hK => ?_)
            refine Kd.S_append_step k43 (w0 := w) w.heap.size (by rfl) (.tmp 24) (.tmp 31) 44 43 (.agg #[(.int .i64 0), (.slice none 0 0)]) 32 rfl Try.underlying44 info43 rfl (by decide) (by omega) u6 x6_2 (⟨(rd_T43 (rd_L3 l0_0 x13_1) x20_2).f0, t193⟩ : S43) [.int .i64 ((rd_T43 (rd_L3 l0_0 x13_1) x20_2).f0), .slice Ao28 t193.length co28] (fun k_ => k_ ≠ gb192) (fun k_ => some k_ = (.slice Ao28 t193.length co28 : Value).ownBlock) rfl rfl ?aP (fun k_ hk_ => ((Kd.R_mono (ok' := fun k_ => ((fun k_ => k_ ≠ gb192)) k_ ∧ some k_ ≠ (u6 : Value).ownBlock) (Kd.R_types (Kd.R_apart' (HO195.out) (Kd.S_typed HO_6.out) (by decide)) BK192.out (by decide)) (fun k_ hk => ⟨hk.2, hk.1.2⟩))).1 k_ hk_.symm) ?aF ?aO ?aB ?aS ?aL ?_
            (case aP => exact k43_mkM _ _ _ (⟨(rd_T43 (rd_L3 l0_0 x13_1) x20_2).f0, t193⟩ : S43) (Kd.R_mono (Kd.R_tight rfl (Kd.R_mono (ok' := fun k_ => ((fun k_ => k_ ≠ gb192)) k_ ∧ some k_ ≠ (u6 : Value).ownBlock) (Kd.R_types (Kd.R_apart' (HO195.out) (Kd.S_typed HO_6.out) (by decide)) BK192.out (by decide)) (fun k_ hk => ⟨hk.2, hk.1.2⟩))) (fun _ h_ => h_)))
            (case aB => exact (gB_ HB.out))
            (case aF => exact (fun k_ hk => Kd.freshB (g := gb192) (o := .cells #[.int .i64 ((rd_T43 (rd_L3 l0_0 x13_1) x20_2).f0), .slice A191_1 ((rd_T43 (rd_L3 l0_0 x13_1) x20_2).f1).length c191_1] 43 (0, 0)) (by (with_reducible repeat (first | refine bN_ ?_ _ | refine bD_ ?_ | refine bA_ ?_ _)); exact BK192.out) k_ hk))
            (case aO => exact (by (with_reducible repeat (first | apply Kd.S_alloc | apply Kd.S_drewN | apply Kd.S_drew)); exact Kd.S_mono HO_6.out (fun k_ hk => ⟨hk.1, fun e_ => hk.2 e_⟩)))
            (case aS => exact (below_size (gB_ HB.out)))
            (case aL => have := LMc19.out; omega)
            intro v197 w29 ho hb hg hat
            rw [← Ny196.out] at ho
            have n0 := aM_ (Kd.R_after (ok := (fun k_ => some k_ ≠ (.slice Ao28 t193.length co28 : Value).ownBlock ∧ k_ ≠ gb192)) (by (with_reducible repeat (first | apply rA_ | apply rN_ | apply rD_)); exact Kd.R_mono HO_187000.out (fun _ hk => ⟨⟨hk.2, hk.1.2⟩, hk.1.1⟩)) hg hat)
            have n1 := aM_ (blk_grown (g := gb184) (o := .cells #[.slice (some ad187) l0_0.length c0_0] 24 (0, 0)) (by (with_reducible repeat (first | refine bN_ ?_ _ | refine bD_ ?_ | refine bA_ ?_ _)); exact BK184.out) hg (Kd.S_ne HO_6.out BK184.out (by decide)))
            have n2 := aM_ (blk_grown (g := gb185) (o := .cells #[.slice none 0 0] 24 (0, 0)) (by (with_reducible repeat (first | refine bN_ ?_ _ | refine bD_ ?_ | refine bA_ ?_ _)); exact BK185.out) hg (Kd.S_ne HO_6.out BK185.out (by decide)))
            have n3 := aM_ (blk_grown (g := gb186) (o := .cells #[u1870] 24 (0, 0)) (by (with_reducible repeat (first | refine bN_ ?_ _ | refine bD_ ?_ | refine bA_ ?_ _)); exact BK186.out) hg (Kd.S_ne HO_6.out BK186.out (by decide)))
            have n4 := aM_ (blk_grown (g := gb192) (o := .cells #[.int .i64 ((rd_T43 (rd_L3 l0_0 x13_1) x20_2).f0), .slice A191_1 ((rd_T43 (rd_L3 l0_0 x13_1) x20_2).f1).length c191_1] 43 (0, 0)) (by (with_reducible repeat (first | refine bN_ ?_ _ | refine bD_ ?_ | refine bA_ ?_ _)); exact BK192.out) hg (Kd.S_away HO_6.out (fun _ hk => hk.1)))
            have n5 := aM_ (hb)
            have n6 := aM_ (ho)
            clear HO_187000
            clear BK184
            clear BK185
            clear BK186
            clear BK192
            clear HB
            clear HO_6
            clear HO195
            have HO_187000 := n0
            have BK184 := n1
            have BK185 := n2
            have BK186 := n3
            have BK192 := n4
            have HB := n5
            have HO198 := n6
            clear n0 n1 n2 n3 n4 n5 n6
            clear ho hb hg hat
            refine hK.out _ _ (bC2_ BK192.out) (fun hHeld => ?_)
            clear hK K
            refine norm_ (a' := ?_) ?_ ?_
            rotate_left
            ·show Act.put _ (some 32) _ = _
             simp only [pt_, pn_, sI_, s0_, s1_, i64_w, i32_w]
             rfl
            refine pU_ 9 (some 6) (mk_ 10 1023) ?_
            refine done_ (done_of HT_.out (by kernel_rfl)) ?_
            try go_wp2
            go_roundg k2
            case measure => have := HK1.out; have := HK2.out; omega
            case rel => exact ⟨(y196), (wrap64 (x20_2 + 1)), (by first | rfl | (simp; done) | (simp [*]; done)), H', ⟨by have := HK1.out; have := HK2.out; omega⟩, ⟨by (with_reducible repeat (first | apply Kd.S_alloc | apply Kd.S_drewN | apply Kd.S_drew)); exact Kd.S_mono HO198.out (fun _ hk => trivial)⟩, ⟨by (with_reducible repeat (first | apply rA_ | apply rN_ | apply rD_)); exact Kd.R_mono HO_187000.out (fun _ hk => hk.2)⟩, ⟨rW_ BK184.out⟩, ⟨rW_ BK185.out⟩, ⟨rW_ BK186.out⟩, ⟨gW_ HB.out⟩⟩
           ·rw [if_neg c19] at H
            exact absurd H (by simp)
          ·rw [if_neg c17] at H
           exact absurd H (by simp)
         ·rw [if_neg c16] at H
          exact absurd H (by simp)
        ·rw [if_neg c15] at H
         have c15b0 : decide (x20_2 < ((rd_L3 l0_0 x13_1).length : Int)) = false := decide_eq_false c15
         clear c15
         by_cases c30 : x1870_1.length < 5864062014805
         ·rw [if_pos c30] at H
          have LMc30 := aM_ c30
          clear c30
          obtain ⟨y199, hy199⟩ : ∃ y_ : List (List (S43)), y_ = (x1870_1 ++ [x6_2]) := ⟨_, rfl⟩
          replace H : (impl_copyMemory.l0 k2 l0_0 (l0_0.length : Int) (wrap64 (x13_1 + 1)) y199) = some r := by first | (rw [hy199]; with_reducible exact H) | (have H2_ := (Option.bind_some _ _).symm.trans H; rw [hy199]; with_reducible exact H2_) | (have H2_ := (Option.bind_some _ _).symm.trans H; with_reducible exact H2_) | with_reducible exact H | (rw [hy199]; exact H) | exact H
          have Ny199 := aM_ hy199
          clear hy199
          have H' := aM_ H
          clear H
          have hnb31 := NB186_184.out
          have hnc31 := NB184_186.out
          have hnb32 := NB186_185.out
          have hnc32 := NB185_186.out
          have hcz33_0 : wr.cell? ⟨gb186, 0, none⟩ = some (u1870) := (blk_cell BK186.out 0).trans rfl
          have hfz33_0 := blk_frozen BK186.out 0
          obtain ⟨Ao35, co35, eo35⟩ := Kd.S_slice HO_6.out
          subst eo35
          go_wp2_with (first | ((with_reducible refine gate_builtin (b := .append) (xs := #[.tmp 35, .tmp 37]) rfl ?_); at_builtin; refine Kd.S_append (sslice 43 k43) (w0 := w00) w00.heap.size rfl (.tmp 35) (.tmp 37) 22 44 (.slice none 0 0) 24 rfl Try.underlying22 info44 rfl (by decide) (by omega) u1870 x1870_1 x6_2 [.slice Ao35 x6_2.length co35] (fun _ => True) (fun k_ => w.heap.size ≤ k_) rfl rfl ?aP HF.out ?aF ?aO ?aB ?aS ?aL ?_; (case aP => exact ⟨_, rfl, Kd.S_lower (Kd.S_mono (Kd.S_bound HO_6.out) (fun _ hk => hk.2.1)) (below_size HBo.out)⟩); (case aB => exact (below_step HBo.out HB.out)); (case aF => exact (fun _ _ => trivial)); (case aO => exact (Kd.S_mono (Kd.S_old HSo.out HB.out) (fun _ hk => ⟨trivial, Nat.not_le.2 hk.2⟩))); (case aS => exact (below_size (below_step HBo.out HB.out))); (case aL => have := LMc30.out; omega); intro v200 w34 ho hb hg hat; rw [← Ny199.out] at ho; have n0 := aM_ (blk_grown (g := gb184) (o := .cells #[.slice (some ad187) l0_0.length c0_0] 24 (0, 0)) (by (with_reducible repeat (first | refine bN_ ?_ _ | refine bD_ ?_ | refine bA_ ?_ _)); exact BK184.out) hg (Kd.R_ne HO_187000.out BK184.out (by decide))); have n1 := aM_ (blk_grown (g := gb185) (o := .cells #[.slice none 0 0] 24 (0, 0)) (by (with_reducible repeat (first | refine bN_ ?_ _ | refine bD_ ?_ | refine bA_ ?_ _)); exact BK185.out) hg (Kd.R_ne HO_187000.out BK185.out (by decide))); have n2 := aM_ (blk_grown (g := gb186) (o := .cells #[u1870] 24 (0, 0)) (by (with_reducible repeat (first | refine bN_ ?_ _ | refine bD_ ?_ | refine bA_ ?_ _)); exact BK186.out) hg (Kd.R_ne HO_187000.out BK186.out (by decide))); have n3 := aM_ (hb); have n4 := aM_ (ho); clear BK184; clear BK185; clear BK186; clear HB; clear HO_187000; clear HO_6; have BK184 := n0; have BK185 := n1; have BK186 := n2; have HB := n3; have HO201 := n4; clear n0 n1 n2 n3 n4; clear ho hb hg hat; obtain ⟨Ao36, co36, eo36⟩ := Kd.S_slice HO201.out; subst eo36; have hcz37_0 : w34.cell? ⟨gb186, 0, none⟩ = some (u1870) := (blk_cell BK186.out 0).trans rfl; have hfz37_0 := blk_frozen BK186.out 0))
          go_roundg k2
          case measure => have := HK1.out; have := HK2.out; omega
          case rel => exact ⟨(wrap64 (x13_1 + 1)), (y199), (.slice Ao36 y199.length co36), (by first | rfl | (simp; done) | (simp [*]; done)), H', ⟨by have := HK1.out; have := HK2.out; omega⟩, ⟨by (with_reducible repeat (first | apply Kd.S_alloc | apply Kd.S_drewN | apply Kd.S_drew)); exact Kd.S_mono (Kd.S_far (p := ⟨gb186, 0, none⟩) (Kd.S_types HO201.out BK186.out (by decide)) (fun _ hk => hk.2) (.slice Ao36 y199.length co36)) (fun _ hk => trivial)⟩, ⟨by (with_reducible repeat (first | refine bN_ ?_ _ | refine bD_ ?_ | refine bA_ ?_ _)); refine blk_far ?_ NB184_186.out _; (with_reducible repeat (first | refine bN_ ?_ _ | refine bD_ ?_ | refine bA_ ?_ _)); exact BK184.out⟩, ⟨by (with_reducible repeat (first | refine bN_ ?_ _ | refine bD_ ?_ | refine bA_ ?_ _)); refine blk_far ?_ NB185_186.out _; (with_reducible repeat (first | refine bN_ ?_ _ | refine bD_ ?_ | refine bA_ ?_ _)); exact BK185.out⟩, ⟨by (with_reducible repeat (first | refine bN_ ?_ _ | refine bD_ ?_ | refine bA_ ?_ _)); refine blk_put (cs := #[u1870]) ?_ 0 _ rfl; (with_reducible repeat (first | refine bN_ ?_ _ | refine bD_ ?_ | refine bA_ ?_ _)); exact BK186.out⟩, ⟨gW_ HB.out⟩⟩
         ·rw [if_neg c30] at H
          exact absurd H (by simp)
     ·rw [if_neg c12] at H
      exact absurd H (by simp)
    ·rw [if_neg c11] at H
     exact absurd H (by simp)
   ·rw [if_neg c10] at H
    have c10b0 : decide (x13_1 < (l0_0.length : Int)) = false := decide_eq_false c10
    clear c10
    obtain rfl := Option.some.inj H
    have hnb38 := NB186_184.out
    have hnc38 := NB184_186.out
    have hnb39 := NB186_185.out
    have hnc39 := NB185_186.out
    have hcz40_0 : wr.cell? ⟨gb186, 0, none⟩ = some (u1870) := (blk_cell BK186.out 0).trans rfl
    have hfz40_0 := blk_frozen BK186.out 0
    obtain ⟨Ao41, co41, eo41⟩ := Kd.S_slice HO_187000.out
    subst eo41
    have hnb42 := NB185_184.out
    have hnc42 := NB184_185.out
    have hcz43_0 : wr.cell? ⟨gb185, 0, none⟩ = some (.slice none 0 0) := (blk_cell BK185.out 0).trans rfl
    have hfz43_0 := blk_frozen BK185.out 0
    go_wp2
    refine bodyPost_ret (results_cell_row rfl _ _ gb185 24 #[.slice Ao41 x1870_1.length co41] (0, 0) _ rfl (by (with_reducible repeat (first | refine bN_ ?_ _ | refine bD_ ?_ | refine bA_ ?_ _)); refine blk_put (cs := #[.slice none 0 0]) ?_ 0 _ rfl; exact rW_ BK185.out) Try.underlying24 rfl (by kernel_rfl)) rfl ?_
    exact ⟨_, fR_, by (with_reducible repeat (first | apply Kd.S_alloc | apply Kd.S_drewN | apply Kd.S_drew)); exact Kd.S_mono (Kd.S_far (p := ⟨gb185, 0, none⟩) (Kd.S_types HO_187000.out BK185.out (by decide)) (fun _ hk => hk.2) (.slice Ao41 x1870_1.length co41)) (fun _ hk => trivial), gB_ HB.out⟩
def impl_isCell.f (a0 : Int) : Option (Bool) := (impl_within.f a0 0 23).bind fun t202 => (some t202)
set_option maxHeartbeats 8000000 in
set_option maxRecDepth 100000 in
theorem impl_isCell.calls (a0 : Int) (r : Bool) (w : World) (h : impl_isCell.f a0 = some r) :
  Calls Try.prog 56 #[.int .i64 a0] w fun e w' => e = .returned (.bool r) ∧ Drawn0 w w' := by
 have H : ((impl_within.f a0 0 23).bind fun t202 => (some t202)) = some r := h
 clear h
 replace H := Option.bind_eq_some_iff.mp H
 obtain ⟨t202, A20, H⟩ := H
 replace H : (some t202) = some r := H
 have A2 := aM_ A20
 clear A20
 obtain rfl := Option.some.inj H
 go_enter Try.func56, Try.ntmps56
 go_wp2_with (first | ((with_reducible refine gate_callee (f := 68) rfl ?_); refine gL_ (some 4) Try.func68 #[.int .i64 a0, .int .i64 0, .int .i64 23] ?_; (with_reducible refine (impl_within.calls a0 0 23 t202 _ A2.out).mono ?_); rintro e w' ⟨rfl, ⟨nd, rfl⟩⟩; refine ⟨_, rfl, ?_⟩))
 go_ret
 exact ⟨by first | rfl | (simp; done) | (simp [*]; done), by repeat (first | exact Drawn0.refl _ | apply Drawn0.step)⟩
def impl_Memory_hasRoom.f (l0_0 : List (List (S43))) (a1 : Int) : Option (Bool) := if 0 ≤ a1 then (if a1 < (l0_0.length : Int) then (some (decide (((rd_L3 l0_0 a1).length : Int) < 4000))) else (none)) else (none)
set_option maxHeartbeats 8000000 in
set_option maxRecDepth 100000 in
theorem impl_Memory_hasRoom.calls (g : Nat) (A0_0 : Option Addr) (c0_0 : Nat) (l0_0 : List (List (S43))) (a1 : Int) (r : Bool) (w : World) (hbk0 : w.heap[g]? = some (.cells #[.slice A0_0 l0_0.length c0_0] 24 (0, 0))) (hr0_0 : Kd.C (Kd.slice 43 k43) w A0_0 l0_0.length l0_0) (hc0_0 : l0_0.length ≤ c0_0) (h : impl_Memory_hasRoom.f l0_0 a1 = some r) :
  Calls Try.prog 57 #[.pointer (some ⟨g, 0, none⟩), .int .i64 a1] w fun e w' => e = .returned (.bool r) ∧ Below w.heap.size w w' := by
 have BK203 := aM_ hbk0
 clear hbk0
 have hu24 := Try.underlying24
 have HR0_0 := aM_ hr0_0
 have HC0_0 := aM_ hc0_0
 clear hr0_0 hc0_0
 have HB := aM_ (Below.refl w.heap.size w)
 have H : (if 0 ≤ a1 then (if a1 < (l0_0.length : Int) then (some (decide (((rd_L3 l0_0 a1).length : Int) < 4000))) else (none)) else (none)) = some r := h
 clear h
 by_cases c3 : 0 ≤ a1
 ·rw [if_pos c3] at H
  have c3b0 : decide (0 ≤ a1) = true := decide_eq_true c3
  clear c3
  by_cases c4 : a1 < (l0_0.length : Int)
  ·rw [if_pos c4] at H
   have c4b0 : decide (a1 < (l0_0.length : Int)) = true := decide_eq_true c4
   clear c4
   obtain rfl := Option.some.inj H
   go_enter Try.func57, Try.ntmps57
   have hcz6_0 : w.cell? ⟨g, 0, none⟩ = some (.slice A0_0 l0_0.length c0_0) := (blk_cell BK203.out 0).trans rfl
   have hfz6_0 := blk_frozen BK203.out 0
   have p204 : 0 ≤ (a1 : Int) := of_decide_eq_true (by first | (with_reducible assumption) | assumption)
   have q204 : a1 < (l0_0.length : Int) := of_decide_eq_true (by first | (with_reducible assumption) | assumption)
   obtain ⟨ad204, A204_0, c204_0, e204, hx204_0, hl204_0, hi204_0⟩ := at_L3 HR0_0.out a1 p204 q204
   cases e204
   replace hx204_0 := cB_ HB.out hx204_0
   have HR204_0 := aM_ hi204_0
   have HC204_0 := aM_ hl204_0
   clear hi204_0 hl204_0
   replace p204 := eq_true p204
   replace q204 := eq_true q204
   go_wp2
   go_ret
   exact fI_ HB.out
  ·rw [if_neg c4] at H
   exact absurd H (by simp)
 ·rw [if_neg c3] at H
  exact absurd H (by simp)
def impl_Memory_store.f (l0_0 : List (List (S43))) (l1 : List Int) (a2 : Int) (a3 : Int) (a4 : Bool) : Option (List (List (S43)) × List Int) := (impl_copyInts.f l1).bind fun t206 => (if 0 ≤ a2 then (if a2 < (l0_0.length : Int) then (if a2 < (t206.length : Int) then ((some (t206.set (a2 : Int).toNat ((rd_L3 l0_0 a2).length : Int) : List Int)).bind fun y210 => (if 24 ≤ 35184372088832 then (if a2 < ((List.replicate 24 0).length : Int) then (if a4 = true then ((impl_copyInts.f y210).bind fun t216 => (if (rd_L3 l0_0 a2).length < 4398046511104 then (some (l0_0.set (a2 : Int).toNat (rd_L3 l0_0 a2 ++ [(⟨a3, t216⟩ : S43)]), y210)) else (none))) else (if (rd_L3 l0_0 a2).length < 4398046511104 then (some (l0_0.set (a2 : Int).toNat (rd_L3 l0_0 a2 ++ [(⟨a3, (List.replicate 24 0).set (a2 : Int).toNat (rd y210 a2)⟩ : S43)]), y210)) else (none))) else (none)) else (none))) else (none)) else (none)) else (none))
set_option maxHeartbeats 8000000 in
set_option maxRecDepth 100000 in
theorem impl_Memory_store.calls (P0_0_ : Nat → Prop) (g : Nat) (A0_0 : Option Addr) (c0_0 : Nat) (l0_0 : List (List (S43))) (A1 : Option Addr) (c1 : Nat) (l1 : List Int) (a2 : Int) (a3 : Int) (a4 : Bool) (r1 : List (List (S43))) (r2 : List Int) (b0 : Nat) (w : World) (hbk0 : w.heap[g]? = some (.cells #[.slice A0_0 l0_0.length c0_0] 24 (0, 0))) (hS0 : Kd.S (sslice 43 k43) 44 w b0 P0_0_ (.slice A0_0 l0_0.length c0_0) l0_0) (hb0 : b0 ≤ w.heap.size) (hr1 : Kd.C (Kd.int .i64) w A1 l1.length l1) (hc1 : l1.length ≤ c1) (h : impl_Memory_store.f l0_0 l1 a2 a3 a4 = some (r1, r2)) :
  Calls Try.prog 59 #[.pointer (some ⟨g, 0, none⟩), .slice A1 l1.length c1, .int .i64 a2, .int .i64 a3, .bool a4] w fun e w' => ∃ v0_ : Value, e = .returned (v0_) ∧ w'.heap[g]? = some (.cells #[.slice A0_0 l0_0.length c0_0] 24 (0, 0)) ∧ Kd.S (sslice 43 k43) 44 w' b0 (fun k_ => (P0_0_ k_ ∨ w.heap.size ≤ k_) ∧ some k_ ≠ (v0_ : Value).ownBlock) (.slice A0_0 l0_0.length c0_0) r1 ∧ Kd.R (Kd.int .i64) 3 w' w.heap.size (fun k_ => (w.heap.size ≤ k_)) v0_ r2 ∧ Below b0 w w' ∧ Kept w w' P0_0_ := by
 have hr0_0 : Kd.C (Kd.slice 43 k43) w A0_0 l0_0.length l0_0 := (Kd.R_reads' (S_Rs hS0)).2.2
 have hc0_0 : l0_0.length ≤ c0_0 := (Kd.R_reads' (S_Rs hS0)).2.1
 have hS := aM_ hS0
 have hb0w := aM_ hb0
 have BK205 := aM_ hbk0
 clear hS0 hb0 hbk0
 have hu24 := Try.underlying24
 have HR0_0 := aM_ hr0_0
 have HC0_0 := aM_ hc0_0
 clear hr0_0 hc0_0
 have HR1 := aM_ hr1
 have HC1 := aM_ hc1
 clear hr1 hc1
 have HB := aM_ (Below.refl w.heap.size w)
 have H : ((impl_copyInts.f l1).bind fun t206 => (if 0 ≤ a2 then (if a2 < (l0_0.length : Int) then (if a2 < (t206.length : Int) then ((some (t206.set (a2 : Int).toNat ((rd_L3 l0_0 a2).length : Int) : List Int)).bind fun y210 => (if 24 ≤ 35184372088832 then (if a2 < ((List.replicate 24 0).length : Int) then (if a4 = true then ((impl_copyInts.f y210).bind fun t216 => (if (rd_L3 l0_0 a2).length < 4398046511104 then (some (l0_0.set (a2 : Int).toNat (rd_L3 l0_0 a2 ++ [(⟨a3, t216⟩ : S43)]), y210)) else (none))) else (if (rd_L3 l0_0 a2).length < 4398046511104 then (some (l0_0.set (a2 : Int).toNat (rd_L3 l0_0 a2 ++ [(⟨a3, (List.replicate 24 0).set (a2 : Int).toNat (rd y210 a2)⟩ : S43)]), y210)) else (none))) else (none)) else (none))) else (none)) else (none)) else (none))) = some (r1, r2) := h
 clear h
 replace H := Option.bind_eq_some_iff.mp H
 obtain ⟨t206, A60, H⟩ := H
 replace H : (if 0 ≤ a2 then (if a2 < (l0_0.length : Int) then (if a2 < (t206.length : Int) then ((some (t206.set (a2 : Int).toNat ((rd_L3 l0_0 a2).length : Int) : List Int)).bind fun y210 => (if 24 ≤ 35184372088832 then (if a2 < ((List.replicate 24 0).length : Int) then (if a4 = true then ((impl_copyInts.f y210).bind fun t216 => (if (rd_L3 l0_0 a2).length < 4398046511104 then (some (l0_0.set (a2 : Int).toNat (rd_L3 l0_0 a2 ++ [(⟨a3, t216⟩ : S43)]), y210)) else (none))) else (if (rd_L3 l0_0 a2).length < 4398046511104 then (some (l0_0.set (a2 : Int).toNat (rd_L3 l0_0 a2 ++ [(⟨a3, (List.replicate 24 0).set (a2 : Int).toNat (rd y210 a2)⟩ : S43)]), y210)) else (none))) else (none)) else (none))) else (none)) else (none)) else (none)) = some (r1, r2) := H
 have A6 := aM_ A60
 clear A60
 by_cases c7 : 0 ≤ a2
 ·rw [if_pos c7] at H
  have c7b0 : decide (0 ≤ a2) = true := decide_eq_true c7
  clear c7
  by_cases c8 : a2 < (l0_0.length : Int)
  ·rw [if_pos c8] at H
   have c8b0 : decide (a2 < (l0_0.length : Int)) = true := decide_eq_true c8
   clear c8
   by_cases c9 : a2 < (t206.length : Int)
   ·rw [if_pos c9] at H
    have c9b0 : decide (a2 < (t206.length : Int)) = true := decide_eq_true c9
    clear c9
    obtain ⟨y210, hy210⟩ : ∃ y_ : List Int, y_ = (t206.set (a2 : Int).toNat ((rd_L3 l0_0 a2).length : Int)) := ⟨_, rfl⟩
    replace H : (if 24 ≤ 35184372088832 then (if a2 < ((List.replicate 24 0).length : Int) then (if a4 = true then ((impl_copyInts.f y210).bind fun t216 => (if (rd_L3 l0_0 a2).length < 4398046511104 then (some (l0_0.set (a2 : Int).toNat (rd_L3 l0_0 a2 ++ [(⟨a3, t216⟩ : S43)]), y210)) else (none))) else (if (rd_L3 l0_0 a2).length < 4398046511104 then (some (l0_0.set (a2 : Int).toNat (rd_L3 l0_0 a2 ++ [(⟨a3, (List.replicate 24 0).set (a2 : Int).toNat (rd y210 a2)⟩ : S43)]), y210)) else (none))) else (none)) else (none)) = some (r1, r2) := by first | (rw [hy210]; with_reducible exact H) | (have H2_ := (Option.bind_some _ _).symm.trans H; rw [hy210]; with_reducible exact H2_) | (have H2_ := (Option.bind_some _ _).symm.trans H; with_reducible exact H2_) | with_reducible exact H | (rw [hy210]; exact H) | exact H
    have Ny210 := aM_ hy210
    clear hy210
    by_cases c11 : 24 ≤ 35184372088832
    ·rw [if_pos c11] at H
     have c11b0 := eq_true c11
     have c11b1 : decide (24 ≤ 35184372088832) = true := decide_eq_true c11
     clear c11
     obtain ⟨y211, hy211⟩ : ∃ y_ : List Int, y_ = (List.replicate 24 0) := ⟨_, rfl⟩
     replace H : (if a2 < (y211.length : Int) then (if a4 = true then ((impl_copyInts.f y210).bind fun t216 => (if (rd_L3 l0_0 a2).length < 4398046511104 then (some (l0_0.set (a2 : Int).toNat (rd_L3 l0_0 a2 ++ [(⟨a3, t216⟩ : S43)]), y210)) else (none))) else (if (rd_L3 l0_0 a2).length < 4398046511104 then (some (l0_0.set (a2 : Int).toNat (rd_L3 l0_0 a2 ++ [(⟨a3, y211.set (a2 : Int).toNat (rd y210 a2)⟩ : S43)]), y210)) else (none))) else (none)) = some (r1, r2) := by first | (rw [hy211]; with_reducible exact H) | (have H2_ := (Option.bind_some _ _).symm.trans H; rw [hy211]; with_reducible exact H2_) | (have H2_ := (Option.bind_some _ _).symm.trans H; with_reducible exact H2_) | with_reducible exact H | (rw [hy211]; exact H) | exact H
     have Ny211 := aM_ hy211
     clear hy211
     by_cases c12 : a2 < (y211.length : Int)
     ·rw [if_pos c12] at H
      have c12b0 : decide (a2 < (y211.length : Int)) = true := decide_eq_true c12
      clear c12
      obtain ⟨y215, hy215⟩ : ∃ y_ : List Int, y_ = (y211.set (a2 : Int).toNat (rd y210 a2)) := ⟨_, rfl⟩
      replace H : (if a4 = true then ((impl_copyInts.f y210).bind fun t216 => (if (rd_L3 l0_0 a2).length < 4398046511104 then (some (l0_0.set (a2 : Int).toNat (rd_L3 l0_0 a2 ++ [(⟨a3, t216⟩ : S43)]), y210)) else (none))) else (if (rd_L3 l0_0 a2).length < 4398046511104 then (some (l0_0.set (a2 : Int).toNat (rd_L3 l0_0 a2 ++ [(⟨a3, y215⟩ : S43)]), y210)) else (none))) = some (r1, r2) := by first | (rw [hy215]; with_reducible exact H) | (have H2_ := (Option.bind_some _ _).symm.trans H; rw [hy215]; with_reducible exact H2_) | (have H2_ := (Option.bind_some _ _).symm.trans H; with_reducible exact H2_) | with_reducible exact H | (rw [hy215]; exact H) | exact H
      have Ny215 := aM_ hy215
      clear hy215
      by_cases c14 : a4 = true
      ·subst c14
       have H1 : ((impl_copyInts.f y210).bind fun t216 => (if (rd_L3 l0_0 a2).length < 4398046511104 then (some (l0_0.set (a2 : Int).toNat (rd_L3 l0_0 a2 ++ [(⟨a3, t216⟩ : S43)]), y210)) else (none))) = some (r1, r2) := by rw [if_pos rfl] at H; exact H
       clear H
       have H := H1
       clear H1
       replace H := Option.bind_eq_some_iff.mp H
       obtain ⟨t216, A150, H⟩ := H
       replace H : (if (rd_L3 l0_0 a2).length < 4398046511104 then (some (l0_0.set (a2 : Int).toNat (rd_L3 l0_0 a2 ++ [(⟨a3, t216⟩ : S43)]), y210)) else (none)) = some (r1, r2) := H
       have A15 := aM_ A150
       clear A150
       by_cases cP : (rd_L3 l0_0 a2).length < 4398046511104
       case neg => rw [if_neg cP] at H; exact absurd H (by simp)
       rw [if_pos cP] at H
       have LMcP := aM_ cP
       clear cP
       obtain ⟨yP, hyP⟩ : ∃ y_ : List S43, y_ = rd_L3 l0_0 a2 ++ [(⟨a3, t216⟩ : S43)] := ⟨_, rfl⟩
       replace H : (some (l0_0.set (a2 : Int).toNat yP, y210)) = some (r1, r2) := by rw [hyP]; exact H
       have NyP := aM_ hyP
       clear hyP
       simp only [Option.some.injEq, Prod.mk.injEq] at H
       obtain ⟨rfl, rfl⟩ := H
       go_enter Try.func59, Try.ntmps59
       go_wp2_with (first | (go_at_call 58; (with_reducible refine (impl_copyInts.calls _ _ l1 t206 _ ?side1 ?side2 A6.out).mono ?_); (case side1 => exact cS_ (Kd.C_below HR1.out HB.out)); (case side2 => exact HC1.out); rintro e w17 ⟨v207, rfl, ho0, hb⟩; have n0 := aM_ (Kd.R_lower ho0 (below_size (gB_ HB.out))); have n1 := aM_ (blk_below (g := g) (o := .cells #[.slice A0_0 l0_0.length c0_0] 24 (0, 0)) (by (with_reducible repeat (first | refine bN_ ?_ _ | refine bD_ ?_ | refine bA_ ?_ _)); exact BK205.out) hb); have n2 := aM_ (sT_ HB.out hb); clear BK205; clear HB; have HO208 := n0; have BK205 := n1; have HB := n2; clear n0 n1 n2; (try clear ho0); have hcz18_0 : w17.cell? ⟨g, 0, none⟩ = some (.slice A0_0 l0_0.length c0_0) := (blk_cell BK205.out 0).trans rfl; have hfz18_0 := blk_frozen BK205.out 0; have p209 : 0 ≤ (a2 : Int) := of_decide_eq_true (by first | (with_reducible assumption) | assumption); have q209 : a2 < (l0_0.length : Int) := of_decide_eq_true (by first | (with_reducible assumption) | assumption); obtain ⟨ad209, A209_0, c209_0, e209, hx209_0, hl209_0, hi209_0⟩ := at_L3 HR0_0.out a2 p209 q209; cases e209; replace hx209_0 := cB_ HB.out hx209_0; have HR209_0 := aM_ hi209_0; have HC209_0 := aM_ hl209_0; clear hi209_0 hl209_0; replace p209 := eq_true p209; replace q209 := eq_true q209; have p10 : 0 ≤ (a2 : Int) := of_decide_eq_true (by first | (with_reducible assumption) | assumption); have q10 : (a2 : Int) < ((t206.length : Int) : Int) := of_decide_eq_true (by first | (with_reducible assumption) | assumption); obtain ⟨go10, co10, eo10, gb10, gl10, cl10, HG10⟩ := Kd.R_form HO208.out (by omega); (first | cases eo10 | (injection eo10 with ea_ en_ ec_; (first | subst ea_ | (injection ea_ with ea_; subst ea_)); subst ec_; clear en_)); have GB10 := aM_ gb10; have GG10 := aM_ HG10; clear gb10 gl10 HG10; obtain ⟨hx10_0, hf10_0⟩ := Kd.R_celln 0 HO208.out (a2 : Int) p10 q10; replace p10 := eq_true p10; replace q10 := eq_true q10; obtain ⟨hy19_, hz19_⟩ := Kd.R_celln 0 HO208.out (a2 : Int) (of_decide_eq_true (by first | (with_reducible assumption) | assumption)) (of_decide_eq_true (by first | (with_reducible assumption) | assumption)); have HP19 := Kd.R_putg HO208.out (a2 : Int) ((rd_L3 l0_0 a2).length : Int)) | ((with_reducible refine gate_store (t := 3) (p := 25) rfl ?_); (try (rw [drewN_self w17]; generalize hq_ : World.drewN w17 _ = w17; have n0 := aM_ (Kd.R_at hq_ HO208.out); have n1 := aM_ (blk_at hq_ BK205.out); have n2 := aM_ (below_at hq_ HB.out); clear hq_ HO208 BK205 HB; have HO208 := n0; have BK205 := n1; have HB := n2; clear n0 n1 n2; (try (obtain ⟨hy19_, hz19_⟩ := Kd.R_celln 0 HO208.out (a2 : Int) (of_decide_eq_true (by first | (with_reducible assumption) | assumption)) (of_decide_eq_true (by first | (with_reducible assumption) | assumption)))); (try (have HP19 := Kd.R_putg HO208.out (a2 : Int) ((rd_L3 l0_0 a2).length : Int))))); refine store_event (t := 3) (p := 25) (v := ?vo_w20) (w1 := (w17.setCell ⟨go10, (a2 : Int).toNat, none⟩ (.int .i64 ((rd_L3 l0_0 a2).length : Int)))) ?hg ?ho ?hn ?hr ?_; (case ho => rfl); (case hg => rfl); (case hn => rfl); (case hr => first | (go_simp; done) | (go_simp; rfl)); intro w20 hw; have hg : w17.grownBy w20 (some go10) := (by rw [hw]; exact HP19.2); have hp_ : Kd.R (Kd.int .i64) 3 w20 w.heap.size (fun _ => True) (.slice (some ⟨go10, 0, none⟩) t206.length co10) y210 := (by rw [hw, Ny210.out]; exact HP19.1); clear HP19; have n0 := aM_ (blk_grown (g := g) (o := .cells #[.slice (some ad209) l0_0.length c0_0] 24 (0, 0)) (by (with_reducible repeat (first | refine bN_ ?_ _ | refine bD_ ?_ | refine bA_ ?_ _)); exact BK205.out) hg (Kd.R_ne HO208.out BK205.out (by decide))); have n1 := aM_ (hp_); have n2 := aM_ ((by rw [hw]; exact below_set (HB.out) GB10.out : Below w.heap.size w w20)); clear BK205; clear HO208; clear HB; have BK205 := n0; have HO208 := n1; have HB := n2; clear n0 n1 n2; clear hg hw hp_) | ((with_reducible refine gate_dst (N := 26) rfl ?_); refine Kd.R_make (Kd.int .i64) _ 3 rfl (N := 26) rfl 31 _ _ rfl 24 rfl rfl Try.underlying31 (.int .i64 0) 8 info3 rfl (by decide) (by omega) 0 (ok := fun _ => True) (okp := fun _ => True) rfl (fun _ hk => hk) trivial (by omega) (by omega) (Below.refl _ _) (Nat.le_refl _) ?_; intro v212 w21 ho22 hb hg_ hnew_; clear hg_ hnew_; (first | rw [← Ny211.out] at ho22 | (simp only [Int.reduceToNat] at ho22; rw [← Ny211.out] at ho22)); have n0 := aM_ (Kd.R_elder' (by (with_reducible repeat (first | apply rA_ | apply rN_ | apply rD_)); exact HO208.out) (Kd.R_base ho22) hb); have n1 := aM_ (Kd.R_lower (Kd.R_new' ho22 (Kd.R_lt (by (with_reducible repeat (first | apply rA_ | apply rN_ | apply rD_)); exact HO208.out))) (below_size (gB_ HB.out))); have n2 := aM_ (blk_below (g := g) (o := .cells #[.slice (some ad209) l0_0.length c0_0] 24 (0, 0)) (by (with_reducible repeat (first | refine bN_ ?_ _ | refine bD_ ?_ | refine bA_ ?_ _)); exact BK205.out) hb); have n3 := aM_ (sT_ HB.out hb); clear HO208; clear BK205; clear HB; have HO208 := n0; have HO213 := n1; have BK205 := n2; have HB := n3; clear n0 n1 n2 n3; clear hb ho22; have p214 : 0 ≤ (a2 : Int) := of_decide_eq_true (by first | (with_reducible assumption) | assumption); have q214 : a2 < (y210.length : Int) := (by have h_ : (a2 : Int) < ((t206.length : Int) : Int) := of_decide_eq_true (by first | (with_reducible assumption) | assumption); first | (have e_ := (Kd.R_reads' HO208.out).1; omega) | simpa only [Ny210.out, List.length_set] using h_); have ql214 : ((a2 : Int) < ((t206.length : Int) : Int)) = True := eq_true (of_decide_eq_true (by first | (with_reducible assumption) | assumption)); obtain ⟨ad214, e214, hx214_0⟩ := Kd.at_int (Kd.R_reads' HO208.out).2.2 a2 p214 q214; obtain rfl : (⟨go10, 0, none⟩ : Addr) = ad214 := (by injection e214); (first | simp only [add_plain] at hx214_0 | simp only [add_at] at hx214_0 | simp only [Addr.add, Nat.zero_add] at hx214_0 | skip); replace p214 := eq_true p214; replace q214 := eq_true q214; have p13 : 0 ≤ (a2 : Int) := of_decide_eq_true (by first | (with_reducible assumption) | assumption); have q13 : (a2 : Int) < ((y211.length : Int) : Int) := of_decide_eq_true (by first | (with_reducible assumption) | assumption); obtain ⟨go13, co13, eo13, gb13, gl13, cl13, HG13⟩ := Kd.R_form HO213.out (by omega); (first | cases eo13 | (injection eo13 with ea_ en_ ec_; (first | subst ea_ | (injection ea_ with ea_; subst ea_)); subst ec_; clear en_)); have GB13 := aM_ gb13; have GG13 := aM_ HG13; clear gb13 gl13 HG13; obtain ⟨hx13_0, hf13_0⟩ := Kd.R_celln 0 HO213.out (a2 : Int) p13 q13; replace p13 := eq_true p13; replace q13 := eq_true q13; have n_ := aM_ (Kd.R_mono (ok' := (fun k_ => some k_ ≠ (.slice (some ⟨go10, 0, none⟩) t206.length co10 : Value).ownBlock)) HO213.out (fun k_ hk => hk.2)); clear HO213; have HO213 := n_; clear n_; obtain ⟨hy23_, hz23_⟩ := Kd.R_celln 0 HO213.out (a2 : Int) (of_decide_eq_true (by first | (with_reducible assumption) | assumption)) (of_decide_eq_true (by first | (with_reducible assumption) | assumption)); have HP23 := Kd.R_putg HO213.out (a2 : Int) (rd y210 a2)) | ((with_reducible refine gate_store (t := 3) (p := 33) rfl ?_); (try (rw [drewN_self w21]; generalize hq_ : World.drewN w21 _ = w21; have n0 := aM_ (Kd.R_at hq_ HO208.out); have n1 := aM_ (Kd.R_at hq_ HO213.out); have n2 := aM_ (blk_at hq_ BK205.out); have n3 := aM_ (below_at hq_ HB.out); clear hq_ HO208 HO213 BK205 HB; have HO208 := n0; have HO213 := n1; have BK205 := n2; have HB := n3; clear n0 n1 n2 n3; (try (have n_ := aM_ (Kd.R_mono (ok' := (fun k_ => some k_ ≠ (.slice (some ⟨go10, 0, none⟩) t206.length co10 : Value).ownBlock)) HO213.out (fun k_ hk => hk.2)); clear HO213; have HO213 := n_; clear n_)); (try (obtain ⟨hy23_, hz23_⟩ := Kd.R_celln 0 HO213.out (a2 : Int) (of_decide_eq_true (by first | (with_reducible assumption) | assumption)) (of_decide_eq_true (by first | (with_reducible assumption) | assumption)))); (try (have HP23 := Kd.R_putg HO213.out (a2 : Int) (rd y210 a2))))); refine store_event (t := 3) (p := 33) (v := ?vo_w24) (w1 := (w21.setCell ⟨go13, (a2 : Int).toNat, none⟩ (.int .i64 (rd y210 a2)))) ?hg ?ho ?hn ?hr ?_; (case ho => rfl); (case hg => rfl); (case hn => rfl); (case hr => first | (go_simp; done) | (go_simp; rfl)); intro w24 hw; have hg : w21.grownBy w24 (some go13) := (by rw [hw]; exact HP23.2); have hp_ : Kd.R (Kd.int .i64) 3 w24 w.heap.size (fun k_ => some k_ ≠ (.slice (some ⟨go10, 0, none⟩) t206.length co10 : Value).ownBlock) (.slice (some ⟨go13, 0, none⟩) y211.length co13) y215 := (by rw [hw, Ny215.out]; exact HP23.1); clear HP23; have n0 := aM_ (blk_grown (g := g) (o := .cells #[.slice (some ad209) l0_0.length c0_0] 24 (0, 0)) (by (with_reducible repeat (first | refine bN_ ?_ _ | refine bD_ ?_ | refine bA_ ?_ _)); exact BK205.out) hg (Kd.R_ne HO213.out BK205.out (by decide))); have n1 := aM_ (Kd.R_after (v := (.slice (some ⟨go13, 0, none⟩) y211.length co13)) (v1 := (.slice (some ⟨go13, 0, none⟩) y211.length co13)) (ok := (fun _ => True)) (by (with_reducible repeat (first | apply rA_ | apply rN_ | apply rD_)); exact HO208.out) hg (.inl rfl)); have n2 := aM_ (hp_); have n3 := aM_ ((by rw [hw]; exact below_set (HB.out) GB13.out : Below w.heap.size w w24)); clear BK205; clear HO208; clear HO213; clear HB; have BK205 := n0; have HO208 := n1; have HO213 := n2; have HB := n3; clear n0 n1 n2 n3; clear hg hw hp_) | (go_at_call 58; refine calls_of_args (args' := #[.slice (some ⟨go10, 0, none⟩) y210.length co10]) (by first | (rw [show y210.length = t206.length from (Kd.R_reads' HO208.out).1.symm] <;> rfl) | rfl) ?_; (with_reducible refine (impl_copyInts.calls _ _ y210 t216 _ ?side1 ?side2 A15.out).mono ?_); (case side1 => exact cS_ (Kd.R_reads' HO208.out).2.2); (case side2 => rw [show y210.length = t206.length from (Kd.R_reads' HO208.out).1.symm]; exact (Kd.R_reads' HO208.out).2.1); rintro e w25 ⟨v217, rfl, ho0, hb⟩; have n0 := aM_ (Kd.R_elder' (by (with_reducible repeat (first | apply rA_ | apply rN_ | apply rD_)); exact HO208.out) (Kd.R_base ho0) hb); have n1 := aM_ (Kd.R_elder' (by (with_reducible repeat (first | apply rA_ | apply rN_ | apply rD_)); exact HO213.out) (Kd.R_base ho0) hb); have n2 := aM_ (Kd.R_lower (Kd.R_new' (Kd.R_new' ho0 (Kd.R_lt (by (with_reducible repeat (first | apply rA_ | apply rN_ | apply rD_)); exact HO208.out))) (Kd.R_lt (by (with_reducible repeat (first | apply rA_ | apply rN_ | apply rD_)); exact HO213.out))) (below_size (gB_ HB.out))); have n3 := aM_ (blk_below (g := g) (o := .cells #[.slice (some ad209) l0_0.length c0_0] 24 (0, 0)) (by (with_reducible repeat (first | refine bN_ ?_ _ | refine bD_ ?_ | refine bA_ ?_ _)); exact BK205.out) hb); have n4 := aM_ (sT_ HB.out hb); clear HO208; clear HO213; clear BK205; clear HB; have HO208 := n0; have HO213 := n1; have HO218 := n2; have BK205 := n3; have HB := n4; clear n0 n1 n2 n3 n4; (try clear ho0)))
       obtain ⟨AT_, cT_, rfl⟩ := Kd.R_slice HO218.out
       replace HO208 := aM_ (Kd.R_drew HO208.out)
       replace HO213 := aM_ (Kd.R_drew HO213.out)
       replace HO218 := aM_ (Kd.R_drew HO218.out)
       replace BK205 := aM_ (blk_drew BK205.out)
       replace HB := aM_ (below_drew1 HB.out)
       have hbs_ := below_size HB.out
       have HSm := aM_ (Kd.S_old hS.out HB.out)
       have hp_ : 0 ≤ a2 := of_decide_eq_true c7b0
       have hq_ : a2 < (l0_0.length : Int) := of_decide_eq_true c8b0
       obtain ⟨gM, rfl⟩ := Kd.R_head (Kd.S_R HSm.out)
       obtain ⟨oki, Ae, ce, hSe, hcM, hoki, ⟨cellsM, hBM⟩, hback⟩ := S_push HSm.out a2 hp_ hq_
       have HSe := aM_ hSe
       have BKM := aM_ hBM
       have hkM := aM_ ((blk_cell hBM (a2).toNat).symm.trans hcM)
       have HBK := aM_ hback
       have HOK := aM_ hoki
       have HGM : Aside0 (gM < w.heap.size) := ⟨((Kd.S_R HSm.out).1 gM rfl).2⟩
       have HRW : Aside0 (∀ k, (Value.slice Ae (rd_L3 l0_0 a2).length ce).ownBlock = some k → P0_0_ k ∧ k < w.heap.size) := ⟨fun k hk => (hoki k ((Kd.S_R hSe).1 k hk)).1⟩
       clear hSe hBM hcM hback hoki hp_ hq_
       refine start_ (n := 19) (S := fun w' => w'.cell? ⟨g, 0, none⟩ = some (.slice (some ⟨gM, 0, none⟩) l0_0.length c0_0) ∧ w'.cell? ⟨gM, (a2).toNat, none⟩ = some (.slice Ae (rd_L3 l0_0 a2).length ce)) (ds := [18]) #[false, false, false, false, false, false, false, false, false, false, false, false, false, false, false, false, false, false, false] (by kernel_rfl) rfl rfl ⟨(blk_cell (BK205.out) 0).trans rfl, (blk_cell (BKM.out) _).trans hkM.out⟩ (fun hHeld => ?_)
       generalize w25.drew = wR at HO208 HO213 HO218 BK205 HB HSm HSe BKM HBK hbs_ hHeld ⊢
       refine pU_ 0 (some 37) (mk_ 19 1) ?_
       refine pU_ 1 (some 38) (mk_ 19 3) ?_
       refine pU_ 2 (some 39) (mk_ 19 7) ?_
       refine pU_ 4 (some 41) (mk_ 19 23) ?_
       refine pU_ 5 (some 42) (mk_ 19 55) ?_
       refine pU_ 6 (some 43) (mk_ 19 119) ?_
       refine pU_ 7 (some 44) (mk_ 19 247) ?_
       refine pU_ 9 (some 46) (mk_ 19 759) ?_
       refine pU_ 12 (some 49) (mk_ 19 4855) ?_
       refine pU_ 13 (some 50) (mk_ 19 13047) ?_
       refine pU_ 14 (some 51) (mk_ 19 29431) ?_
       refine tK2_ 3 (some 40) (mk_ 19 29439) ?_
       refine tK2_ 8 (some 45) (mk_ 19 29695) ?_
       refine pU_ 10 (some 47) (mk_ 19 30719) ?_
       refine tK2_ 11 (some 48) (mk_ 19 32767) ?_
       refine oN_ 15 (some 52) (mk_ 19 65535) (fun K hK => ?_)
       refine value_ (w1 := ?_) (v := ?_) (by rfl) rfl ?_ ?_
       rotate_left 2
       ·go_simp
        constructor
        ·rfl
        ·rfl
       refine hK.out _ _ ⟨(blk_cell (blk_alloc BK205.out _) 0).trans rfl, (blk_cell (blk_alloc BKM.out _) _).trans hkM.out⟩ (fun hHeld => ?_)
       clear hK K
       refine norm_ (a' := ?_) ?_ ?_
       rotate_left
       ·show Act.put _ (some 52) _ = _
        simp only [pt_, pn_, sI_, s0_, s1_, i64_w, i32_w]
        rfl
       refine oN_ 16 (some 53) (mk_ 19 131071) (fun K hK => ?_)
       have hT1 := HO218.out.1
       have hT2 : ∀ k, (.slice AT_ t216.length cT_ : Value).ownBlock = some k → w.heap.size ≤ k := Kd.R_base HO218.out
       refine Kd.S_append_step k43 (w0 := w) b0 (by rfl) (.tmp 48) (.tmp 52) 44 43 (.agg #[(.int .i64 0), (.slice none 0 0)]) 32 rfl Try.underlying44 info43 rfl (by decide) (by omega) (.slice Ae (rd_L3 l0_0 a2).length ce) (rd_L3 l0_0 a2) (⟨a3, t216⟩ : S43) [.int .i64 a3, .slice AT_ t216.length cT_] (fun k_ => oki k_ ∨ (w.heap.size ≤ k_ ∧ some k_ ≠ (.slice (some ⟨go10, 0, none⟩) t206.length co10 : Value).ownBlock)) (fun k_ => some k_ = (.slice AT_ t216.length cT_ : Value).ownBlock) rfl rfl ?aP ?aK ?aF ?aO ?aB ?aS ?aL ?_
       (case aP => exact k43_mkM _ _ _ (⟨a3, t216⟩ : S43) (Kd.R_mono (Kd.R_tight rfl (Kd.R_lower HO218.out hb0w.out)) (fun _ h_ => h_)))
       (case aK => exact fun k hk => ⟨.inr ⟨hT2 k hk.symm, by have h1 := hT1 k hk.symm; first | exact h1.2.1 | exact h1.2 | exact h1.1 | exact h1.1.2 | exact h1⟩, fun e => absurd (hT2 k hk.symm) (Nat.not_le.2 (HRW.out k e.symm).2)⟩)
       (case aF => exact fun k hk => .inr ⟨Nat.le_trans hbs_ hk, fun e => Nat.not_le.2 (Kd.R_lt HO208.out k e.symm) hk⟩)
       (case aO => exact Kd.S_mono HSe.out (fun k hk => ⟨.inl hk, fun e => absurd (hT2 k e.symm) (Nat.not_le.2 (HOK.out k hk).1.2)⟩))
       (case aB => exact HB.out.mono hb0w.out)
       (case aS => exact Nat.le_trans hb0w.out hbs_)
       (case aL => have := LMcP.out; omega)
       intro vP wP ho hb hg hat
       rw [← NyP.out] at ho
       have hnb : ∀ {g t : Nat} {cs : Array Value}, wR.heap[g]? = some (.cells cs t (0, 0)) → t ≠ 43 → some g ≠ (Value.slice Ae (rd_L3 l0_0 a2).length ce).ownBlock := fun hb_ ht => Kd.S_ne HSe.out hb_ (Ne.symm ht)
       have HKP : Aside0 (Kept w wP P0_0_) := ⟨Kept.of_grown hg (Kept.of_below HB.out P0_0_) (fun k e => .inl (HRW.out k e).1)⟩
       have BK205n := aM_ (blk_grown BK205.out hg (hnb BK205.out (by decide)))
       have BKMn := aM_ (blk_grown BKM.out hg (hnb BKM.out (by decide)))
       have HO208n := aM_ (Kd.R_mono (Kd.R_grown (Kd.R_bound HO208.out) hg (fun k hk e => absurd hk.2.1 (Nat.not_le.2 (HRW.out k e.symm).2))) (fun _ hk => hk.1))
       clear hT1 hT2 hnb
       clear BK205 BKM HO208 HB HSm
       have BK205 := BK205n
       have BKM := BKMn
       have HO208 := HO208n
       clear BK205n BKMn HO208n
       obtain ⟨An, cn, rfl⟩ := Kd.S_slice ho
       have HP := aM_ ho
       have HBP : Aside0 (Below b0 w wP) := ⟨hb⟩
       have HG := aM_ hg
       clear ho hb hg hat
       refine hK.out _ _ ⟨(blk_cell (BK205.out) 0).trans rfl, (blk_cell (BKM.out) _).trans hkM.out⟩ (fun hHeld => ?_)
       clear hK K
       refine norm_ (a' := ?_) ?_ ?_
       rotate_left
       ·show Act.put _ (some 53) _ = _
        simp only [pt_, pn_, sI_, s0_, s1_, i64_w, i32_w]
        rfl
       refine pU_ 17 (some 54) (mk_ 19 262143) ?_
       refine last_ (i := 18) (N := none) #[true, true, true, true, true, true, true, true, true, true, true, true, true, true, true, true, true, true, true] rfl rfl (by kernel_rfl) (by decide) (fun K hK => ?_)
       have hsM : wP.cell? ⟨gM, (a2).toNat, none⟩ = some (.slice Ae (rd_L3 l0_0 a2).length ce) := (blk_cell BKM.out _).trans hkM.out
       have hfM := blk_frozen BKM.out (a2).toNat
       refine skip_ (w1 := ?_) (by rfl) rfl ?_ ?_
       rotate_left
       ·go_simp
        rfl
       refine hK.out _ _ ?_
       clear hK K
       refine done_ (by kernel_rfl) ?_
       have HSn := aM_ (HBK.out wP (.slice An yP.length cn) yP (fun k_ => w.heap.size ≤ k_ ∧ some k_ ≠ (.slice (some ⟨go10, 0, none⟩) t206.length co10 : Value).ownBlock) HG.out HP.out (fun k hk => ⟨fun h => Nat.not_le.2 h.2 hk.1, fun e => absurd (e ▸ hk.1) (Nat.not_le.2 HGM.out)⟩))
       replace BK205 := aM_ (blk_far (p := ⟨gM, (a2).toNat, none⟩) BK205.out (by intro e_; have h_ := BK205.out; rw [show _ = gM from e_, BKM.out] at h_; simp at h_) (.slice An yP.length cn))
       replace HO208 := aM_ (Kd.R_mono (Kd.R_far (p := ⟨gM, (a2).toNat, none⟩) (Kd.R_bound HO208.out) (fun k hk e => absurd hk.2.1 (Nat.not_le.2 (show k < w.heap.size from (show k = gM from e) ▸ HGM.out))) (.slice An yP.length cn)) (fun _ hk => hk.1))
       replace HKP := aM_ (HKP.out.setCell (p := ⟨gM, (a2).toNat, none⟩) (.inl ((Kd.S_R hS.out).1 gM rfl)) (.slice An yP.length cn))
       replace HBP : Aside0 (Below b0 w (wP.setCell ⟨gM, (a2).toNat, none⟩ (.slice An yP.length cn))) := ⟨HBP.out.setCell (Kd.S_base hS.out gM rfl) _⟩
       clear hsM hfM HG HP HBK HSe BKM hkM HOK HRW hHeld
       generalize (wP.setCell ⟨gM, (a2).toNat, none⟩ (.slice An yP.length cn)) = wQ at HSn HKP HBP BK205 HO208 ⊢
       go_wp2
       go_ret
       exact ⟨_, by first | rfl | (simp [*]; done), BK205.out, Kd.S_mono HSn.out (fun k hk => hk.elim (fun h => ⟨.inl h.1, fun e => absurd (Kd.R_base HO208.out k e.symm) (Nat.not_le.2 h.2)⟩) (fun h => ⟨.inr h.1, h.2⟩)), Kd.R_mono (Kd.R_bound HO208.out) (fun _ hk => hk.2.1), HBP.out, HKP.out⟩
      ·replace c14 := Bool.eq_false_iff.mpr c14
       subst c14
       have H1 : (if (rd_L3 l0_0 a2).length < 4398046511104 then (some (l0_0.set (a2 : Int).toNat (rd_L3 l0_0 a2 ++ [(⟨a3, y215⟩ : S43)]), y210)) else (none)) = some (r1, r2) := by rw [if_neg (show ¬ (false = true) by decide)] at H; exact H
       clear H
       have H := H1
       clear H1
       by_cases cP : (rd_L3 l0_0 a2).length < 4398046511104
       case neg => rw [if_neg cP] at H; exact absurd H (by simp)
       rw [if_pos cP] at H
       have LMcP := aM_ cP
       clear cP
       obtain ⟨yP, hyP⟩ : ∃ y_ : List S43, y_ = rd_L3 l0_0 a2 ++ [(⟨a3, y215⟩ : S43)] := ⟨_, rfl⟩
       replace H : (some (l0_0.set (a2 : Int).toNat yP, y210)) = some (r1, r2) := by rw [hyP]; exact H
       have NyP := aM_ hyP
       clear hyP
       simp only [Option.some.injEq, Prod.mk.injEq] at H
       obtain ⟨rfl, rfl⟩ := H
       go_enter Try.func59, Try.ntmps59
       go_wp2_with (first | (go_at_call 58; (with_reducible refine (impl_copyInts.calls _ _ l1 t206 _ ?side1 ?side2 A6.out).mono ?_); (case side1 => exact cS_ (Kd.C_below HR1.out HB.out)); (case side2 => exact HC1.out); rintro e w27 ⟨v207, rfl, ho0, hb⟩; have n0 := aM_ (Kd.R_lower ho0 (below_size (gB_ HB.out))); have n1 := aM_ (blk_below (g := g) (o := .cells #[.slice A0_0 l0_0.length c0_0] 24 (0, 0)) (by (with_reducible repeat (first | refine bN_ ?_ _ | refine bD_ ?_ | refine bA_ ?_ _)); exact BK205.out) hb); have n2 := aM_ (sT_ HB.out hb); clear BK205; clear HB; have HO208 := n0; have BK205 := n1; have HB := n2; clear n0 n1 n2; (try clear ho0); have hcz28_0 : w27.cell? ⟨g, 0, none⟩ = some (.slice A0_0 l0_0.length c0_0) := (blk_cell BK205.out 0).trans rfl; have hfz28_0 := blk_frozen BK205.out 0; have p209 : 0 ≤ (a2 : Int) := of_decide_eq_true (by first | (with_reducible assumption) | assumption); have q209 : a2 < (l0_0.length : Int) := of_decide_eq_true (by first | (with_reducible assumption) | assumption); obtain ⟨ad209, A209_0, c209_0, e209, hx209_0, hl209_0, hi209_0⟩ := at_L3 HR0_0.out a2 p209 q209; cases e209; replace hx209_0 := cB_ HB.out hx209_0; have HR209_0 := aM_ hi209_0; have HC209_0 := aM_ hl209_0; clear hi209_0 hl209_0; replace p209 := eq_true p209; replace q209 := eq_true q209; have p10 : 0 ≤ (a2 : Int) := of_decide_eq_true (by first | (with_reducible assumption) | assumption); have q10 : (a2 : Int) < ((t206.length : Int) : Int) := of_decide_eq_true (by first | (with_reducible assumption) | assumption); obtain ⟨go10, co10, eo10, gb10, gl10, cl10, HG10⟩ := Kd.R_form HO208.out (by omega); (first | cases eo10 | (injection eo10 with ea_ en_ ec_; (first | subst ea_ | (injection ea_ with ea_; subst ea_)); subst ec_; clear en_)); have GB10 := aM_ gb10; have GG10 := aM_ HG10; clear gb10 gl10 HG10; obtain ⟨hx10_0, hf10_0⟩ := Kd.R_celln 0 HO208.out (a2 : Int) p10 q10; replace p10 := eq_true p10; replace q10 := eq_true q10; obtain ⟨hy29_, hz29_⟩ := Kd.R_celln 0 HO208.out (a2 : Int) (of_decide_eq_true (by first | (with_reducible assumption) | assumption)) (of_decide_eq_true (by first | (with_reducible assumption) | assumption)); have HP29 := Kd.R_putg HO208.out (a2 : Int) ((rd_L3 l0_0 a2).length : Int)) | ((with_reducible refine gate_store (t := 3) (p := 25) rfl ?_); (try (rw [drewN_self w27]; generalize hq_ : World.drewN w27 _ = w27; have n0 := aM_ (Kd.R_at hq_ HO208.out); have n1 := aM_ (blk_at hq_ BK205.out); have n2 := aM_ (below_at hq_ HB.out); clear hq_ HO208 BK205 HB; have HO208 := n0; have BK205 := n1; have HB := n2; clear n0 n1 n2; (try (obtain ⟨hy29_, hz29_⟩ := Kd.R_celln 0 HO208.out (a2 : Int) (of_decide_eq_true (by first | (with_reducible assumption) | assumption)) (of_decide_eq_true (by first | (with_reducible assumption) | assumption)))); (try (have HP29 := Kd.R_putg HO208.out (a2 : Int) ((rd_L3 l0_0 a2).length : Int))))); refine store_event (t := 3) (p := 25) (v := ?vo_w30) (w1 := (w27.setCell ⟨go10, (a2 : Int).toNat, none⟩ (.int .i64 ((rd_L3 l0_0 a2).length : Int)))) ?hg ?ho ?hn ?hr ?_; (case ho => rfl); (case hg => rfl); (case hn => rfl); (case hr => first | (go_simp; done) | (go_simp; rfl)); intro w30 hw; have hg : w27.grownBy w30 (some go10) := (by rw [hw]; exact HP29.2); have hp_ : Kd.R (Kd.int .i64) 3 w30 w.heap.size (fun _ => True) (.slice (some ⟨go10, 0, none⟩) t206.length co10) y210 := (by rw [hw, Ny210.out]; exact HP29.1); clear HP29; have n0 := aM_ (blk_grown (g := g) (o := .cells #[.slice (some ad209) l0_0.length c0_0] 24 (0, 0)) (by (with_reducible repeat (first | refine bN_ ?_ _ | refine bD_ ?_ | refine bA_ ?_ _)); exact BK205.out) hg (Kd.R_ne HO208.out BK205.out (by decide))); have n1 := aM_ (hp_); have n2 := aM_ ((by rw [hw]; exact below_set (HB.out) GB10.out : Below w.heap.size w w30)); clear BK205; clear HO208; clear HB; have BK205 := n0; have HO208 := n1; have HB := n2; clear n0 n1 n2; clear hg hw hp_) | ((with_reducible refine gate_dst (N := 26) rfl ?_); refine Kd.R_make (Kd.int .i64) _ 3 rfl (N := 26) rfl 31 _ _ rfl 24 rfl rfl Try.underlying31 (.int .i64 0) 8 info3 rfl (by decide) (by omega) 0 (ok := fun _ => True) (okp := fun _ => True) rfl (fun _ hk => hk) trivial (by omega) (by omega) (Below.refl _ _) (Nat.le_refl _) ?_; intro v212 w31 ho32 hb hg_ hnew_; clear hg_ hnew_; (first | rw [← Ny211.out] at ho32 | (simp only [Int.reduceToNat] at ho32; rw [← Ny211.out] at ho32)); have n0 := aM_ (Kd.R_elder' (by (with_reducible repeat (first | apply rA_ | apply rN_ | apply rD_)); exact HO208.out) (Kd.R_base ho32) hb); have n1 := aM_ (Kd.R_lower (Kd.R_new' ho32 (Kd.R_lt (by (with_reducible repeat (first | apply rA_ | apply rN_ | apply rD_)); exact HO208.out))) (below_size (gB_ HB.out))); have n2 := aM_ (blk_below (g := g) (o := .cells #[.slice (some ad209) l0_0.length c0_0] 24 (0, 0)) (by (with_reducible repeat (first | refine bN_ ?_ _ | refine bD_ ?_ | refine bA_ ?_ _)); exact BK205.out) hb); have n3 := aM_ (sT_ HB.out hb); clear HO208; clear BK205; clear HB; have HO208 := n0; have HO213 := n1; have BK205 := n2; have HB := n3; clear n0 n1 n2 n3; clear hb ho32; have p214 : 0 ≤ (a2 : Int) := of_decide_eq_true (by first | (with_reducible assumption) | assumption); have q214 : a2 < (y210.length : Int) := (by have h_ : (a2 : Int) < ((t206.length : Int) : Int) := of_decide_eq_true (by first | (with_reducible assumption) | assumption); first | (have e_ := (Kd.R_reads' HO208.out).1; omega) | simpa only [Ny210.out, List.length_set] using h_); have ql214 : ((a2 : Int) < ((t206.length : Int) : Int)) = True := eq_true (of_decide_eq_true (by first | (with_reducible assumption) | assumption)); obtain ⟨ad214, e214, hx214_0⟩ := Kd.at_int (Kd.R_reads' HO208.out).2.2 a2 p214 q214; obtain rfl : (⟨go10, 0, none⟩ : Addr) = ad214 := (by injection e214); (first | simp only [add_plain] at hx214_0 | simp only [add_at] at hx214_0 | simp only [Addr.add, Nat.zero_add] at hx214_0 | skip); replace p214 := eq_true p214; replace q214 := eq_true q214; have p13 : 0 ≤ (a2 : Int) := of_decide_eq_true (by first | (with_reducible assumption) | assumption); have q13 : (a2 : Int) < ((y211.length : Int) : Int) := of_decide_eq_true (by first | (with_reducible assumption) | assumption); obtain ⟨go13, co13, eo13, gb13, gl13, cl13, HG13⟩ := Kd.R_form HO213.out (by omega); (first | cases eo13 | (injection eo13 with ea_ en_ ec_; (first | subst ea_ | (injection ea_ with ea_; subst ea_)); subst ec_; clear en_)); have GB13 := aM_ gb13; have GG13 := aM_ HG13; clear gb13 gl13 HG13; obtain ⟨hx13_0, hf13_0⟩ := Kd.R_celln 0 HO213.out (a2 : Int) p13 q13; replace p13 := eq_true p13; replace q13 := eq_true q13; have n_ := aM_ (Kd.R_mono (ok' := (fun k_ => some k_ ≠ (.slice (some ⟨go10, 0, none⟩) t206.length co10 : Value).ownBlock)) HO213.out (fun k_ hk => hk.2)); clear HO213; have HO213 := n_; clear n_; obtain ⟨hy33_, hz33_⟩ := Kd.R_celln 0 HO213.out (a2 : Int) (of_decide_eq_true (by first | (with_reducible assumption) | assumption)) (of_decide_eq_true (by first | (with_reducible assumption) | assumption)); have HP33 := Kd.R_putg HO213.out (a2 : Int) (rd y210 a2)) | ((with_reducible refine gate_store (t := 3) (p := 33) rfl ?_); (try (rw [drewN_self w31]; generalize hq_ : World.drewN w31 _ = w31; have n0 := aM_ (Kd.R_at hq_ HO208.out); have n1 := aM_ (Kd.R_at hq_ HO213.out); have n2 := aM_ (blk_at hq_ BK205.out); have n3 := aM_ (below_at hq_ HB.out); clear hq_ HO208 HO213 BK205 HB; have HO208 := n0; have HO213 := n1; have BK205 := n2; have HB := n3; clear n0 n1 n2 n3; (try (have n_ := aM_ (Kd.R_mono (ok' := (fun k_ => some k_ ≠ (.slice (some ⟨go10, 0, none⟩) t206.length co10 : Value).ownBlock)) HO213.out (fun k_ hk => hk.2)); clear HO213; have HO213 := n_; clear n_)); (try (obtain ⟨hy33_, hz33_⟩ := Kd.R_celln 0 HO213.out (a2 : Int) (of_decide_eq_true (by first | (with_reducible assumption) | assumption)) (of_decide_eq_true (by first | (with_reducible assumption) | assumption)))); (try (have HP33 := Kd.R_putg HO213.out (a2 : Int) (rd y210 a2))))); refine store_event (t := 3) (p := 33) (v := ?vo_w34) (w1 := (w31.setCell ⟨go13, (a2 : Int).toNat, none⟩ (.int .i64 (rd y210 a2)))) ?hg ?ho ?hn ?hr ?_; (case ho => rfl); (case hg => rfl); (case hn => rfl); (case hr => first | (go_simp; done) | (go_simp; rfl)); intro w34 hw; have hg : w31.grownBy w34 (some go13) := (by rw [hw]; exact HP33.2); have hp_ : Kd.R (Kd.int .i64) 3 w34 w.heap.size (fun k_ => some k_ ≠ (.slice (some ⟨go10, 0, none⟩) t206.length co10 : Value).ownBlock) (.slice (some ⟨go13, 0, none⟩) y211.length co13) y215 := (by rw [hw, Ny215.out]; exact HP33.1); clear HP33; have n0 := aM_ (blk_grown (g := g) (o := .cells #[.slice (some ad209) l0_0.length c0_0] 24 (0, 0)) (by (with_reducible repeat (first | refine bN_ ?_ _ | refine bD_ ?_ | refine bA_ ?_ _)); exact BK205.out) hg (Kd.R_ne HO213.out BK205.out (by decide))); have n1 := aM_ (Kd.R_after (v := (.slice (some ⟨go13, 0, none⟩) y211.length co13)) (v1 := (.slice (some ⟨go13, 0, none⟩) y211.length co13)) (ok := (fun _ => True)) (by (with_reducible repeat (first | apply rA_ | apply rN_ | apply rD_)); exact HO208.out) hg (.inl rfl)); have n2 := aM_ (hp_); have n3 := aM_ ((by rw [hw]; exact below_set (HB.out) GB13.out : Below w.heap.size w w34)); clear BK205; clear HO208; clear HO213; clear HB; have BK205 := n0; have HO208 := n1; have HO213 := n2; have HB := n3; clear n0 n1 n2 n3; clear hg hw hp_))
       replace HO208 := aM_ (Kd.R_drew HO208.out)
       replace HO213 := aM_ (Kd.R_drew HO213.out)
       replace BK205 := aM_ (blk_drew BK205.out)
       replace HB := aM_ (below_drew1 HB.out)
       have hbs_ := below_size HB.out
       have HSm := aM_ (Kd.S_old hS.out HB.out)
       have hp_ : 0 ≤ a2 := of_decide_eq_true c7b0
       have hq_ : a2 < (l0_0.length : Int) := of_decide_eq_true c8b0
       obtain ⟨gM, rfl⟩ := Kd.R_head (Kd.S_R HSm.out)
       obtain ⟨oki, Ae, ce, hSe, hcM, hoki, ⟨cellsM, hBM⟩, hback⟩ := S_push HSm.out a2 hp_ hq_
       have HSe := aM_ hSe
       have BKM := aM_ hBM
       have hkM := aM_ ((blk_cell hBM (a2).toNat).symm.trans hcM)
       have HBK := aM_ hback
       have HOK := aM_ hoki
       have HGM : Aside0 (gM < w.heap.size) := ⟨((Kd.S_R HSm.out).1 gM rfl).2⟩
       have HRW : Aside0 (∀ k, (Value.slice Ae (rd_L3 l0_0 a2).length ce).ownBlock = some k → P0_0_ k ∧ k < w.heap.size) := ⟨fun k hk => (hoki k ((Kd.S_R hSe).1 k hk)).1⟩
       clear hSe hBM hcM hback hoki hp_ hq_
       refine start_ (n := 19) (S := fun w' => w'.cell? ⟨g, 0, none⟩ = some (.slice (some ⟨gM, 0, none⟩) l0_0.length c0_0) ∧ w'.cell? ⟨gM, (a2).toNat, none⟩ = some (.slice Ae (rd_L3 l0_0 a2).length ce)) (ds := [18]) #[false, false, false, false, false, false, false, false, false, false, false, false, false, false, false, false, false, false, false] (by kernel_rfl) rfl rfl ⟨(blk_cell (BK205.out) 0).trans rfl, (blk_cell (BKM.out) _).trans hkM.out⟩ (fun hHeld => ?_)
       generalize w34.drew = wR at HO208 HO213 BK205 HB HSm HSe BKM HBK hbs_ hHeld ⊢
       refine pU_ 0 (some 37) (mk_ 19 1) ?_
       refine pU_ 1 (some 38) (mk_ 19 3) ?_
       refine pU_ 2 (some 39) (mk_ 19 7) ?_
       refine pU_ 4 (some 41) (mk_ 19 23) ?_
       refine pU_ 5 (some 42) (mk_ 19 55) ?_
       refine pU_ 6 (some 43) (mk_ 19 119) ?_
       refine pU_ 7 (some 44) (mk_ 19 247) ?_
       refine pU_ 9 (some 46) (mk_ 19 759) ?_
       refine pU_ 12 (some 49) (mk_ 19 4855) ?_
       refine pU_ 13 (some 50) (mk_ 19 13047) ?_
       refine pU_ 14 (some 51) (mk_ 19 29431) ?_
       refine tK2_ 3 (some 40) (mk_ 19 29439) ?_
       refine tK2_ 8 (some 45) (mk_ 19 29695) ?_
       refine pU_ 10 (some 47) (mk_ 19 30719) ?_
       refine tK2_ 11 (some 48) (mk_ 19 32767) ?_
       refine oN_ 15 (some 52) (mk_ 19 65535) (fun K hK => ?_)
       refine value_ (w1 := ?_) (v := ?_) (by rfl) rfl ?_ ?_
       rotate_left 2
       ·go_simp
        constructor
        ·rfl
        ·rfl
       refine hK.out _ _ ⟨(blk_cell (blk_alloc BK205.out _) 0).trans rfl, (blk_cell (blk_alloc BKM.out _) _).trans hkM.out⟩ (fun hHeld => ?_)
       clear hK K
       refine norm_ (a' := ?_) ?_ ?_
       rotate_left
       ·show Act.put _ (some 52) _ = _
        simp only [pt_, pn_, sI_, s0_, s1_, i64_w, i32_w]
        rfl
       refine oN_ 16 (some 53) (mk_ 19 131071) (fun K hK => ?_)
       have hT1 := HO213.out.1
       have hT2 : ∀ k, (.slice (some ⟨go13, 0, none⟩) y211.length co13 : Value).ownBlock = some k → w.heap.size ≤ k := Kd.R_base HO213.out
       refine Kd.S_append_step k43 (w0 := w) b0 (by rfl) (.tmp 48) (.tmp 52) 44 43 (.agg #[(.int .i64 0), (.slice none 0 0)]) 32 rfl Try.underlying44 info43 rfl (by decide) (by omega) (.slice Ae (rd_L3 l0_0 a2).length ce) (rd_L3 l0_0 a2) (⟨a3, y215⟩ : S43) [.int .i64 a3, .slice (some ⟨go13, 0, none⟩) y211.length co13] (fun k_ => oki k_ ∨ (w.heap.size ≤ k_ ∧ some k_ ≠ (.slice (some ⟨go10, 0, none⟩) t206.length co10 : Value).ownBlock)) (fun k_ => some k_ = (.slice (some ⟨go13, 0, none⟩) y211.length co13 : Value).ownBlock) rfl rfl ?aP ?aK ?aF ?aO ?aB ?aS ?aL ?_
       (case aP => exact k43_mkM _ _ _ (⟨a3, y215⟩ : S43) (Kd.R_mono (Kd.R_tight rfl (Kd.R_lower HO213.out hb0w.out)) (fun _ h_ => h_)))
       (case aK => exact fun k hk => ⟨.inr ⟨hT2 k hk.symm, by have h1 := hT1 k hk.symm; first | exact h1.2.1 | exact h1.2 | exact h1.1 | exact h1.1.2 | exact h1⟩, fun e => absurd (hT2 k hk.symm) (Nat.not_le.2 (HRW.out k e.symm).2)⟩)
       (case aF => exact fun k hk => .inr ⟨Nat.le_trans hbs_ hk, fun e => Nat.not_le.2 (Kd.R_lt HO208.out k e.symm) hk⟩)
       (case aO => exact Kd.S_mono HSe.out (fun k hk => ⟨.inl hk, fun e => absurd (hT2 k e.symm) (Nat.not_le.2 (HOK.out k hk).1.2)⟩))
       (case aB => exact HB.out.mono hb0w.out)
       (case aS => exact Nat.le_trans hb0w.out hbs_)
       (case aL => have := LMcP.out; omega)
       intro vP wP ho hb hg hat
       rw [← NyP.out] at ho
       have hnb : ∀ {g t : Nat} {cs : Array Value}, wR.heap[g]? = some (.cells cs t (0, 0)) → t ≠ 43 → some g ≠ (Value.slice Ae (rd_L3 l0_0 a2).length ce).ownBlock := fun hb_ ht => Kd.S_ne HSe.out hb_ (Ne.symm ht)
       have HKP : Aside0 (Kept w wP P0_0_) := ⟨Kept.of_grown hg (Kept.of_below HB.out P0_0_) (fun k e => .inl (HRW.out k e).1)⟩
       have BK205n := aM_ (blk_grown BK205.out hg (hnb BK205.out (by decide)))
       have BKMn := aM_ (blk_grown BKM.out hg (hnb BKM.out (by decide)))
       have HO208n := aM_ (Kd.R_mono (Kd.R_grown (Kd.R_bound HO208.out) hg (fun k hk e => absurd hk.2.1 (Nat.not_le.2 (HRW.out k e.symm).2))) (fun _ hk => hk.1))
       clear hT1 hT2 hnb
       clear BK205 BKM HO208 HB HSm
       have BK205 := BK205n
       have BKM := BKMn
       have HO208 := HO208n
       clear BK205n BKMn HO208n
       obtain ⟨An, cn, rfl⟩ := Kd.S_slice ho
       have HP := aM_ ho
       have HBP : Aside0 (Below b0 w wP) := ⟨hb⟩
       have HG := aM_ hg
       clear ho hb hg hat
       refine hK.out _ _ ⟨(blk_cell (BK205.out) 0).trans rfl, (blk_cell (BKM.out) _).trans hkM.out⟩ (fun hHeld => ?_)
       clear hK K
       refine norm_ (a' := ?_) ?_ ?_
       rotate_left
       ·show Act.put _ (some 53) _ = _
        simp only [pt_, pn_, sI_, s0_, s1_, i64_w, i32_w]
        rfl
       refine pU_ 17 (some 54) (mk_ 19 262143) ?_
       refine last_ (i := 18) (N := none) #[true, true, true, true, true, true, true, true, true, true, true, true, true, true, true, true, true, true, true] rfl rfl (by kernel_rfl) (by decide) (fun K hK => ?_)
       have hsM : wP.cell? ⟨gM, (a2).toNat, none⟩ = some (.slice Ae (rd_L3 l0_0 a2).length ce) := (blk_cell BKM.out _).trans hkM.out
       have hfM := blk_frozen BKM.out (a2).toNat
       refine skip_ (w1 := ?_) (by rfl) rfl ?_ ?_
       rotate_left
       ·go_simp
        rfl
       refine hK.out _ _ ?_
       clear hK K
       refine done_ (by kernel_rfl) ?_
       have HSn := aM_ (HBK.out wP (.slice An yP.length cn) yP (fun k_ => w.heap.size ≤ k_ ∧ some k_ ≠ (.slice (some ⟨go10, 0, none⟩) t206.length co10 : Value).ownBlock) HG.out HP.out (fun k hk => ⟨fun h => Nat.not_le.2 h.2 hk.1, fun e => absurd (e ▸ hk.1) (Nat.not_le.2 HGM.out)⟩))
       replace BK205 := aM_ (blk_far (p := ⟨gM, (a2).toNat, none⟩) BK205.out (by intro e_; have h_ := BK205.out; rw [show _ = gM from e_, BKM.out] at h_; simp at h_) (.slice An yP.length cn))
       replace HO208 := aM_ (Kd.R_mono (Kd.R_far (p := ⟨gM, (a2).toNat, none⟩) (Kd.R_bound HO208.out) (fun k hk e => absurd hk.2.1 (Nat.not_le.2 (show k < w.heap.size from (show k = gM from e) ▸ HGM.out))) (.slice An yP.length cn)) (fun _ hk => hk.1))
       replace HKP := aM_ (HKP.out.setCell (p := ⟨gM, (a2).toNat, none⟩) (.inl ((Kd.S_R hS.out).1 gM rfl)) (.slice An yP.length cn))
       replace HBP : Aside0 (Below b0 w (wP.setCell ⟨gM, (a2).toNat, none⟩ (.slice An yP.length cn))) := ⟨HBP.out.setCell (Kd.S_base hS.out gM rfl) _⟩
       clear hsM hfM HG HP HBK HSe BKM hkM HOK HRW hHeld
       generalize (wP.setCell ⟨gM, (a2).toNat, none⟩ (.slice An yP.length cn)) = wQ at HSn HKP HBP BK205 HO208 ⊢
       go_wp2
       go_ret
       exact ⟨_, by first | rfl | (simp [*]; done), BK205.out, Kd.S_mono HSn.out (fun k hk => hk.elim (fun h => ⟨.inl h.1, fun e => absurd (Kd.R_base HO208.out k e.symm) (Nat.not_le.2 h.2)⟩) (fun h => ⟨.inr h.1, h.2⟩)), Kd.R_mono (Kd.R_bound HO208.out) (fun _ hk => hk.2.1), HBP.out, HKP.out⟩
     ·rw [if_neg c12] at H
      exact absurd H (by simp)
    ·rw [if_neg c11] at H
     exact absurd H (by simp)
   ·rw [if_neg c9] at H
    exact absurd H (by simp)
  ·rw [if_neg c8] at H
   exact absurd H (by simp)
 ·rw [if_neg c7] at H
  exact absurd H (by simp)
def impl_Join.l0 : Nat → List Int → List Int → List Int → Int → Option (List Int)
  | 0, _, _, _, _ => none
  | k + 1, x0, x1, x5, x6 => if x6 < (x0.length : Int) then (if x6 < (x1.length : Int) then (if 0 ≤ x6 then (if x5.length < 17592186044416 then (impl_Join.l0 k x0 x1 (x5 ++ [mx (rd x0 x6) (rd x1 x6)]) (wrap64 (x6 + 1))) else (none)) else (none)) else (some x5)) else (some x5)
def impl_Join.f (k : Nat) (l0 : List Int) (l1 : List Int) : Option (List Int) := impl_Join.l0 k l0 l1 (([] : List Int)) 0
def impl_Join.T5 : Bool × List (List Nat × List Nat) := (true, [([], []), ([], []), ([], []), ([1, 2], [1, 2]), ([3], [3]), ([], []), ([], []), ([5, 6], [5, 6]), ([7], [7]), ([4, 8], [4, 8]), ([9], [9]), ([0, 10], [0, 10]), ([11, 11, 0, 1, 2, 3, 4, 5, 6, 7, 8, 9, 10, 11], [0, 11])])
def impl_Join.B5 : List Nat := [0, 0, 0, 6, 14, 0, 0, 96, 224, 510, 1022, 2047, 4095]
theorem impl_Join.tab5 : rtab .any (opsOf Try.f94 5) = impl_Join.T5 := by kernel_rfl
theorem impl_Join.bits5 : waitsOk impl_Join.T5.2 impl_Join.B5 = true := by kernel_rfl
set_option maxHeartbeats 8000000 in
set_option maxRecDepth 100000 in
theorem impl_Join.calls (k : Nat) (A0 : Option Addr) (c0 : Nat) (l0 : List Int) (A1 : Option Addr) (c1 : Nat) (l1 : List Int) (r : List Int) (w : World) (hr0 : Kd.C (Kd.int .i64) w A0 l0.length l0) (hc0 : l0.length ≤ c0) (hr1 : Kd.C (Kd.int .i64) w A1 l1.length l1) (hc1 : l1.length ≤ c1) (h : impl_Join.f k l0 l1 = some r) :
  Calls Try.prog 94 #[.slice A0 l0.length c0, .slice A1 l1.length c1] w fun e w' => ∃ v0_ : Value, e = .returned (v0_) ∧ Kd.R (Kd.int .i64) 3 w' w.heap.size (fun _ => True) v0_ r ∧ Below w.heap.size w w' := by
 have HR0 := aM_ hr0
 have HC0 := aM_ hc0
 clear hr0 hc0
 have HR1 := aM_ hr1
 have HC1 := aM_ hc1
 clear hr1 hc1
 have HB := aM_ (Below.refl w.heap.size w)
 have H : (impl_Join.l0 k l0 l1 (([] : List Int)) 0) = some r := h
 clear h
 obtain ⟨y219, hy219⟩ : ∃ y_ : List Int, y_ = (([] : List Int)) := ⟨_, rfl⟩
 replace H : (impl_Join.l0 k l0 l1 y219 0) = some r := by first | (rw [hy219]; with_reducible exact H) | (have H2_ := (Option.bind_some _ _).symm.trans H; rw [hy219]; with_reducible exact H2_) | (have H2_ := (Option.bind_some _ _).symm.trans H; with_reducible exact H2_) | with_reducible exact H | (rw [hy219]; exact H) | exact H
 have Ny219 := aM_ hy219
 clear hy219
 have H' := aM_ H
 clear H
 go_enter Try.func94, Try.ntmps94
 go_wp2_with (first | ((with_reducible refine gate_dst (N := 7) rfl ?_); (try (refine gate_guard (by rfl) ?_; dsimp only)); refine Kd.R_lit (Kd.int .i64) _ 3 ?hg (N := 7) ?hd (xs := ([] : List Int)) (inner := []) (ok := fun _ => True) (okp := fun _ => True) ?hr ?hp (fun _ hk => hk) trivial (Below.refl _ _) (Nat.le_refl _) (by simp) ?_; (case hd => rfl); (case hg => rfl); (case hr => first | (go_simp; done) | (go_simp; rfl)); (case hp => exact (Reps.none _ _)); intro v220 w3 ho4 hb hg_ hnew_; clear hg_ hnew_; (first | rw [← Ny219.out] at ho4 | (simp only [Int.reduceToNat] at ho4; rw [← Ny219.out] at ho4)); have n0 := aM_ (Kd.R_lower ho4 (below_size (gB_ HB.out))); have n1 := aM_ (sT_ HB.out hb); clear HB; have HO221 := n0; have HB := n1; clear n0 n1; clear hb ho4))
 go_loopg [5, 6] k (fun kq v5 v6 w' => ∃ (x5_1 : List Int) (x6_1 : Int), v6 = .int .i64 x6_1 ∧ Aside0 (impl_Join.l0 kq l0 l1 x5_1 x6_1 = some r) ∧ Aside0 (kq ≤ k) ∧ Aside0 (Kd.R (Kd.int .i64) 3 w' w.heap.size (fun _ => True) v5 x5_1) ∧ Aside0 (Below w.heap.size w w'))
 case atStart => exact ⟨(y219), (0), (by first | rfl | (simp; done) | (simp [*]; done)), H', ⟨Nat.le_refl _⟩, ⟨by (with_reducible repeat (first | apply rA_ | apply rN_ | apply rD_)); exact HO221.out⟩, ⟨gW_ HB.out⟩⟩
 case round =>
  clear H'
  try clear c1
  try clear p2
  obtain ⟨x5_1, x6_1, rfl, HA, HK1, HO_5, HB⟩ := hrel
  cases gk with
  | zero => exact absurd HA.out (by simp [impl_Join.l0])
  | succ k1 =>
   have H := HA.out
   clear HA
   simp only [impl_Join.l0] at H
   by_cases c5 : x6_1 < (l0.length : Int)
   ·rw [if_pos c5] at H
    have c5b0 : decide (x6_1 < (l0.length : Int)) = true := decide_eq_true c5
    clear c5
    by_cases c6 : x6_1 < (l1.length : Int)
    ·rw [if_pos c6] at H
     have c6b0 : decide (x6_1 < (l1.length : Int)) = true := decide_eq_true c6
     clear c6
     by_cases c7 : 0 ≤ x6_1
     ·rw [if_pos c7] at H
      have c7b0 : decide (0 ≤ x6_1) = true := decide_eq_true c7
      clear c7
      obtain ⟨ji8, hji8⟩ : ∃ j_ : Int, (mx (rd l0 x6_1) (rd l1 x6_1)) = j_ := ⟨_, rfl⟩
      replace H : (if x5_1.length < 17592186044416 then (impl_Join.l0 k1 l0 l1 (x5_1 ++ [ji8]) (wrap64 (x6_1 + 1))) else (none)) = some r := by first | (rw [hji8] at H; exact H) | (simp only [hji8] at H ⊢; exact H)
      have hji8_ : (if (rd l0 x6_1) < (rd l1 x6_1) then (rd l1 x6_1) else (rd l0 x6_1)) = ji8 := hji8
      by_cases c9 : x5_1.length < 17592186044416
      ·rw [if_pos c9] at H
       have LMc9 := aM_ c9
       clear c9
       obtain ⟨y224, hy224⟩ : ∃ y_ : List Int, y_ = (x5_1 ++ [ji8]) := ⟨_, rfl⟩
       replace H : (impl_Join.l0 k1 l0 l1 y224 (wrap64 (x6_1 + 1))) = some r := by first | (rw [hy224]; with_reducible exact H) | (have H2_ := (Option.bind_some _ _).symm.trans H; rw [hy224]; with_reducible exact H2_) | (have H2_ := (Option.bind_some _ _).symm.trans H; with_reducible exact H2_) | with_reducible exact H | (rw [hy224]; exact H) | exact H
       have Ny224 := aM_ hy224
       clear hy224
       have H' := aM_ H
       clear H
       try go_wp2
       have n0 := aM_ (Kd.R_drew HO_5.out)
       have n1 := aM_ (below_drew1 HB.out)
       clear HO_5
       clear HB
       have HO_5 := n0
       have HB := n1
       clear n0 n1
       have p222 : 0 ≤ (x6_1 : Int) := of_decide_eq_true (by first | (with_reducible assumption) | assumption)
       have q222 : x6_1 < (l0.length : Int) := of_decide_eq_true (by first | (with_reducible assumption) | assumption)
       obtain ⟨ad222, e222, hx222_0⟩ := Kd.at_int HR0.out x6_1 p222 q222
       have hw222_0 := hx222_0
       cases e222
       replace hx222_0 := cB_ HB.out hx222_0
       replace p222 := eq_true p222
       replace q222 := eq_true q222
       have p223 : 0 ≤ (x6_1 : Int) := of_decide_eq_true (by first | (with_reducible assumption) | assumption)
       have q223 : x6_1 < (l1.length : Int) := of_decide_eq_true (by first | (with_reducible assumption) | assumption)
       obtain ⟨ad223, e223, hx223_0⟩ := Kd.at_int HR1.out x6_1 p223 q223
       have hw223_0 := hx223_0
       cases e223
       replace hx223_0 := cB_ HB.out hx223_0
       replace p223 := eq_true p223
       replace q223 := eq_true q223
       refine start_ (n := 13) (S := fun w' => w'.cell? (ad222.add (x6_1).toNat) = some (.int .i64 (rd l0 x6_1)) ∧ w'.cell? (ad223.add (x6_1).toNat) = some (.int .i64 (rd l1 x6_1))) (ds := []) (mk_ 13 0) (by kernel_rfl) rfl rfl ⟨(cB_ HB.out hw222_0 :), (cB_ HB.out hw223_0 :)⟩ (fun hHeld => ?_); refine with_tabW impl_Join.tab5 impl_Join.bits5 (fun HT_ HW_ => ?_)
       generalize wr.drew = w10 at HO_5 HB hx222_0 hx223_0 hHeld ⊢
       refine pU_ 0 (some 20) (mk_ 13 1) ?_
       refine pU_ 1 (some 21) (mk_ 13 3) ?_
       refine pU_ 2 (some 22) (mk_ 13 7) ?_
       refine pU_ 3 (some 23) (mk_ 13 15) ?_
       refine pU_ 5 (some 25) (mk_ 13 47) ?_
       refine pU_ 6 (some 26) (mk_ 13 111) ?_
       refine pU_ 7 (some 27) (mk_ 13 239) ?_
       refine tK2_ 4 (some 24) (mk_ 13 255) ?_
       refine tK2_ 8 (some 28) (mk_ 13 511) ?_
       refine pU_ 9 (some 29) (mk_ 13 1023) ?_
       refine oN_ 10 (some 30) (mk_ 13 2047) (fun K hK => ?_)
       refine value_ (w1 := ?_) (v := ?_) (by rfl) rfl ?_ ?_
       rotate_left 2
       ·go_simp
        constructor
        ·rfl
        ·rfl
       refine hK.out _ _ ⟨(World.cell?_alloc_lt _ _ _ (World.block_lt_of_cell? _ _ ((cB_ HB.out hw222_0 :)))).trans ((cB_ HB.out hw222_0 :)), (World.cell?_alloc_lt _ _ _ (World.block_lt_of_cell? _ _ ((cB_ HB.out hw223_0 :)))).trans ((cB_ HB.out hw223_0 :))⟩ (fun hHeld => ?_)
       clear hK K
       refine norm_ (a' := ?_) ?_ ?_
       rotate_left
       ·show Act.put _ (some 30) _ = _
        simp only [pt_, pn_, sI_, s0_, s1_, i64_w, i32_w]
        rfl
       refine oN_ 11 (some 31) (mk_ 13 4095) (fun K hK => ?_)
       refine Kd.R_append_step (Kd.int .i64) (w0 := w) w.heap.size (by rfl) (.tmp 20) (.tmp 30) 31 3 (.int .i64 0) 8 rfl Try.underlying31 info3 rfl (by decide) (by omega) u5 x5_1 ji8 [.int .i64 ji8] (fun _ => True) (fun _ => False) rfl rfl ?aP (fun _ hk => hk.elim) ?aF ?aO ?aB ?aS ?aL ?_
       (case aP => exact rfl)
       (case aB => exact (gB_ HB.out))
       (case aF => exact (fun _ _ => trivial))
       (case aO => exact (by (with_reducible repeat (first | apply rA_ | apply rN_ | apply rD_)); exact HO_5.out))
       (case aS => exact (below_size (gB_ HB.out)))
       (case aL => have := LMc9.out; omega)
       intro v225 w11 ho hb hg hat
       rw [← Ny224.out] at ho
       have n0 := aM_ (hb)
       have n1 := aM_ (ho)
       clear HB
       clear HO_5
       have HB := n0
       have HO226 := n1
       clear n0 n1
       clear ho hb hg hat
       refine hK.out _ _ ⟨(cB_ HB.out hw222_0 :), (cB_ HB.out hw223_0 :)⟩ (fun hHeld => ?_)
       clear hK K
       refine norm_ (a' := ?_) ?_ ?_
       rotate_left
       ·show Act.put _ (some 31) _ = _
        simp only [pt_, pn_, sI_, s0_, s1_, i64_w, i32_w]
        rfl
       refine pU_ 12 (some 5) (mk_ 13 8191) ?_
       refine done_ (done_of HT_.out (by kernel_rfl)) ?_
       try go_wp2
       go_roundg k1
       case measure => have := HK1.out; omega
       case rel => exact ⟨(y224), (wrap64 (x6_1 + 1)), (by first | rfl | (simp; done) | (simp [*]; done)), H', ⟨by have := HK1.out; omega⟩, ⟨by (with_reducible repeat (first | apply rA_ | apply rN_ | apply rD_)); exact HO226.out⟩, ⟨gW_ HB.out⟩⟩
      ·rw [if_neg c9] at H
       exact absurd H (by simp)
     ·rw [if_neg c7] at H
      exact absurd H (by simp)
    ·rw [if_neg c6] at H
     have c6b0 : decide (x6_1 < (l1.length : Int)) = false := decide_eq_false c6
     clear c6
     obtain rfl := Option.some.inj H
     go_wp2
     go_ret
     exact ⟨_, fR_, by (with_reducible repeat (first | apply rA_ | apply rN_ | apply rD_)); exact HO_5.out, gB_ HB.out⟩
   ·rw [if_neg c5] at H
    have c5b0 : decide (x6_1 < (l0.length : Int)) = false := decide_eq_false c5
    clear c5
    obtain rfl := Option.some.inj H
    go_wp2
    go_ret
    exact ⟨_, fR_, by (with_reducible repeat (first | apply rA_ | apply rN_ | apply rD_)); exact HO_5.out, gB_ HB.out⟩
end Go.Proofs.Ythbcnakmnbilhaa.PFnExactSwap
