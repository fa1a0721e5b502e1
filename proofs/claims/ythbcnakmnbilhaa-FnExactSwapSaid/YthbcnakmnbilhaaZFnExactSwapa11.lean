/- A part of the proof that the law FnExactSwap holds for every input: the words, functions and walks that its row needs, without a condition of their own. -/
import Derived.Test.YthbcnakmnbilhaaZFnExactSwapa2
import Derived.Test.YthbcnakmnbilhaaZFnExactSwapa3
import Derived.Test.YthbcnakmnbilhaaZFnExactSwaps
namespace Go.Proofs.Ythbcnakmnbilhaa.PFnExactSwap
open Go.RowKit Go.Proofs.YthbcnakmnbilhaaW.PrintWords Go.Proofs.YthbcnakmnbilhaaW.PrintLast Go.Proofs.YthbcnakmnbilhaaW.PrintMore Go.Proofs.Ythbcnakmnbilhaa.SepMark
attribute [local go_sem] max2_int min2_int max_two min_two max_three min_three max_four min_four   -- for this text's walks alone
set_option linter.unusedVariables false
set_option linter.unusedSimpArgs false
mutual
def spec_l6Copy.l0 : Nat → Int → List (List (S43)) → List (List (S43)) → Option ((List (List (S43))))
  | 0, _, _, _ => none
  | k + 1, x4, x303000, x305000 => if x4 < (x303000.length : Int) then (spec_l6Copy.l1 k x4 (([] : List (S43))) 0 x303000 x305000) else (some x305000)
def spec_l6Copy.l1 : Nat → Int → List (S43) → Int → List (List (S43)) → List (List (S43)) → Option ((List (List (S43))))
  | 0, _, _, _, _, _ => none
  | k + 1, x4, x5, x6, x303000, x305000 => if 0 ≤ x4 then (if x4 < (x303000.length : Int) then (if x6 < ((rd_L3 x303000 x4).length : Int) then (if 0 ≤ x6 then ((some (([] : List Int) : List Int)).bind fun y311 => (if y311.length + ((rd_T43 (rd_L3 x303000 x4) x6).f1).length < 17592186044416 then (if x5.length < 4398046511104 then (spec_l6Copy.l1 k x4 (x5 ++ [(⟨(rd_T43 (rd_L3 x303000 x4) x6).f0, (y311 ++ ((rd_T43 (rd_L3 x303000 x4) x6).f1))⟩ : S43)]) (wrap64 (x6 + 1)) x303000 x305000) else (none)) else (none))) else (none)) else (if x305000.length < 5864062014805 then (spec_l6Copy.l0 k (wrap64 (x4 + 1)) x303000 (x305000 ++ [x5])) else (none))) else (none)) else (none)
end
def spec_l6Copy.f (k : Nat) (l0_0 : List (List (S43))) : Option ((List (List (S43)))) := spec_l6Copy.l0 k 0 l0_0 ([] : List (List (S43)))
def spec_l6Copy.T9 : Bool × List (List Nat × List Nat) := (true, [([], []), ([], []), ([1], [1]), ([], []), ([2, 3], [2, 3]), ([4], [4]), ([], []), ([5, 6], [5, 6]), ([7], [7]), ([8], [8]), ([], []), ([], []), ([11], [11]), ([], []), ([12, 13], [12, 13]), ([14], [14]), ([], []), ([15, 16], [15, 16]), ([17], [17]), ([18], [18]), ([10, 19], [10, 19]), ([9, 20], [9, 20]), ([21], [21]), ([0, 22, 20], [0, 22]), ([23, 23, 0, 1, 2, 3, 4, 5, 6, 7, 8, 9, 10, 11, 12, 13, 14, 15, 16, 17, 18, 19, 20, 21, 22, 23], [0, 23])])
def spec_l6Copy.B9 : List Nat := [0, 0, 2, 0, 14, 30, 0, 126, 254, 510, 0, 0, 2048, 0, 14336, 30720, 0, 129024, 260096, 522240, 1047552, 2097150, 4194302, 8388607, 16777215]
theorem spec_l6Copy.tab9 : rtab .any (opsOf Try.f85 9) = spec_l6Copy.T9 := by kernel_rfl
theorem spec_l6Copy.bits9 : waitsOk spec_l6Copy.T9.2 spec_l6Copy.B9 = true := by kernel_rfl
set_option maxHeartbeats 8000000 in
set_option maxRecDepth 100000 in
theorem spec_l6Copy.calls (k : Nat) (A0_0 : Option Addr) (c0_0 : Nat) (l0_0 : List (List (S43))) (r : List (List (S43))) (w00 : World) (hr0_0 : Kd.C (Kd.slice 43 k43) w00 A0_0 l0_0.length l0_0) (hc0_0 : l0_0.length ≤ c0_0) (h : spec_l6Copy.f k l0_0 = some r) :
  Calls Try.prog 85 #[.agg #[.slice A0_0 l0_0.length c0_0]] w00 fun e w' => ∃ v0_ : Value, e = .returned (.agg #[v0_]) ∧ Kd.S (sslice 43 k43) 44 w' w00.heap.size (fun _ => True) v0_ r ∧ Below w00.heap.size w00 w' := by
 have hu24 := Try.underlying24
 have hu43 := Try.underlying43
 have HR0_0 := aM_ hr0_0
 have HC0_0 := aM_ hc0_0
 clear hr0_0 hc0_0
 have HB := aM_ (Below.refl w00.heap.size w00)
 have H : (spec_l6Copy.l0 k 0 l0_0 ([] : List (List (S43)))) = some r := h
 clear h
 have H' := aM_ H
 clear H
 go_enter Try.func85, Try.ntmps85
 go_wp2_with (first | ((with_reducible refine gate_dst (N := 1) rfl ?_); refine bX_ 1 (cs := #[.slice A0_0 l0_0.length c0_0]) (t := 24) ?_; intro gb302 hg w2 hbox hb; have n0 := aM_ (sT_ HB.out hb); have n1 := aM_ (hbox); have n2 := aM_ ((by rw [hg]; exact (below_size (gB_ HB.out)) : w00.heap.size ≤ gb302)); have n3 := aM_ ((by rw [hg]; exact (below_size (gB_ HB.out)) : w00.heap.size ≤ gb302)); clear HB; have HB := n0; have BK302 := n1; have GW302 := n2; have GE302 := n3; clear n0 n1 n2 n3; clear hb hbox hg) | ((with_reducible refine gate_dst (N := 2) rfl ?_); refine bX_ 2 (cs := #[.slice none 0 0]) (t := 24) ?_; intro gb303 hg w3 hbox hb; have n0 := aM_ (nB_ BK302.out hb); have n1 := aM_ (sT_ HB.out hb); have n2 := aM_ (hbox); have n3 := aM_ ((by rw [hg]; exact (below_size (gB_ HB.out)) : w00.heap.size ≤ gb303)); have n4 := aM_ ((by rw [hg]; exact (below_size (gB_ HB.out)) : w00.heap.size ≤ gb303)); have n5 := aM_ (nL_ hg BK302.out); have n6 := aM_ (nG_ hg BK302.out); clear BK302; clear HB; have BK302 := n0; have HB := n1; have BK303 := n2; have GW303 := n3; have GE303 := n4; have NB302_303 := n5; have NB303_302 := n6; clear n0 n1 n2 n3 n4 n5 n6; clear hb hbox hg) | ((with_reducible refine gate_dst (N := 3) rfl ?_); refine bX_ 3 (cs := #[.slice none 0 0]) (t := 24) ?_; intro gb304 hg w4 hbox hb; have n0 := aM_ (nB_ BK302.out hb); have n1 := aM_ (nB_ BK303.out hb); have n2 := aM_ (sT_ HB.out hb); have n3 := aM_ (hbox); have n4 := aM_ ((by rw [hg]; exact (below_size (gB_ HB.out)) : w00.heap.size ≤ gb304)); have n5 := aM_ ((by rw [hg]; exact (below_size (gB_ HB.out)) : w00.heap.size ≤ gb304)); have n6 := aM_ (nL_ hg BK302.out); have n7 := aM_ (nG_ hg BK302.out); have n8 := aM_ (nL_ hg BK303.out); have n9 := aM_ (nG_ hg BK303.out); clear BK302; clear BK303; clear HB; have BK302 := n0; have BK303 := n1; have HB := n2; have BK304 := n3; have GW304 := n4; have GE304 := n5; have NB302_304 := n6; have NB304_302 := n7; have NB303_304 := n8; have NB304_303 := n9; clear n0 n1 n2 n3 n4 n5 n6 n7 n8 n9; clear hb hbox hg; have hnb5 := NB304_302.out; have hnc5 := NB302_304.out; have hnb6 := NB304_303.out; have hnc6 := NB303_304.out; have hcz7_0 : w4.cell? ⟨gb304, 0, none⟩ = some (.slice none 0 0) := (blk_cell BK304.out 0).trans rfl; have hfz7_0 := blk_frozen BK304.out 0))
 go_loopg [4] k (fun kq v4 w' => ∃ (x4_1 : Int) (x3050_1 : List (List (S43))) (u3050 : Value), v4 = .int .i64 x4_1 ∧ Aside0 (spec_l6Copy.l0 kq x4_1 l0_0 x3050_1 = some r) ∧ Aside0 (kq ≤ k) ∧ Aside0 (Kd.S (sslice 43 k43) 44 w' w00.heap.size (fun _ => True) u3050 x3050_1) ∧ Aside0 (w'.heap[gb302]? = some (.cells #[(.slice A0_0 l0_0.length c0_0)] 24 (0, 0))) ∧ Aside0 (w'.heap[gb303]? = some (.cells #[(.slice none 0 0)] 24 (0, 0))) ∧ Aside0 (w'.heap[gb304]? = some (.cells #[u3050] 24 (0, 0))) ∧ Aside0 (Below w00.heap.size w00 w'))
 case atStart => exact ⟨(0), (([] : List (List (S43)))), (.slice none 0 0), (by first | rfl | (simp; done) | (simp [*]; done)), H', ⟨Nat.le_refl _⟩, ⟨by first | exact Kd.R_nil _ _ _ _ _ | exact Kd.N_nil _ _ _ _ _ | exact Kd.V_nil _ _ _ _ _ | exact Kd.Q_nil _ _ _ _ _ | exact Kd.S_nil _ _ _ _ _⟩, ⟨by (with_reducible repeat (first | refine bN_ ?_ _ | refine bD_ ?_ | refine bA_ ?_ _)); refine blk_far ?_ NB302_304.out _; (with_reducible repeat (first | refine bN_ ?_ _ | refine bD_ ?_ | refine bA_ ?_ _)); exact BK302.out⟩, ⟨by (with_reducible repeat (first | refine bN_ ?_ _ | refine bD_ ?_ | refine bA_ ?_ _)); refine blk_far ?_ NB303_304.out _; (with_reducible repeat (first | refine bN_ ?_ _ | refine bD_ ?_ | refine bA_ ?_ _)); exact BK303.out⟩, ⟨by (with_reducible repeat (first | refine bN_ ?_ _ | refine bD_ ?_ | refine bA_ ?_ _)); refine blk_put (cs := #[.slice none 0 0]) ?_ 0 _ rfl; (with_reducible repeat (first | refine bN_ ?_ _ | refine bD_ ?_ | refine bA_ ?_ _)); exact BK304.out⟩, ⟨gW_ HB.out⟩⟩
 case round =>
  clear H'
  try clear p2
  try clear c5
  try clear c6
  try clear hcz7_0 hfz7_0
  obtain ⟨x4_1, x3050_1, u3050, rfl, HA, HK1, HO_305000, BK302, BK303, BK304, HB⟩ := hrel
  cases gk with
  | zero => exact absurd HA.out (by simp [spec_l6Copy.l0])
  | succ k1 =>
   have H := HA.out
   clear HA
   simp only [spec_l6Copy.l0] at H
   by_cases c8 : x4_1 < (l0_0.length : Int)
   ·rw [if_pos c8] at H
    have c8b0 : decide (x4_1 < (l0_0.length : Int)) = true := decide_eq_true c8
    clear c8
    obtain ⟨w, hw⟩ : ∃ x, x = wr := ⟨wr, rfl⟩
    have HBo : Aside0 (Below w00.heap.size w00 w) := ⟨by rw [hw]; exact HB.out⟩
    have HSo : Aside0 (Kd.S (sslice 43 k43) 44 w w00.heap.size (fun _ => True) u3050 x3050_1) := ⟨by rw [hw]; exact HO_305000.out⟩
    have HF : Aside0 (∀ k, w.heap.size ≤ k → True ∧ some k ≠ (u3050 : Value).ownBlock) := ⟨fun k hk => ⟨trivial, fun e => Nat.not_le.2 (Kd.S_lt HSo.out k e.symm) hk⟩⟩
    replace HB : Aside0 (Below w.heap.size w wr) := ⟨by rw [hw]; exact Below.refl _ _⟩
    replace HR0_0 := aM_ (Kd.C_below HR0_0.out HBo.out)
    replace HO_305000 := aM_ (S_Rs HO_305000.out)
    clear hw
    obtain ⟨y305, hy305⟩ : ∃ y_ : List (S43), y_ = (([] : List (S43))) := ⟨_, rfl⟩
    replace H : (spec_l6Copy.l1 k1 x4_1 y305 0 l0_0 x3050_1) = some r := by first | (rw [hy305]; with_reducible exact H) | (have H2_ := (Option.bind_some _ _).symm.trans H; rw [hy305]; with_reducible exact H2_) | (have H2_ := (Option.bind_some _ _).symm.trans H; with_reducible exact H2_) | with_reducible exact H | (rw [hy305]; exact H) | exact H
    have Ny305 := aM_ hy305
    clear hy305
    have H' := aM_ H
    clear H
    have hnb9 := NB302_303.out
    have hnc9 := NB303_302.out
    have hnb10 := NB302_304.out
    have hnc10 := NB304_302.out
    have hcz11_0 : wr.cell? ⟨gb302, 0, none⟩ = some (.slice A0_0 l0_0.length c0_0) := (blk_cell BK302.out 0).trans rfl
    have hfz11_0 := blk_frozen BK302.out 0
    go_wp2_with (first | ((with_reducible refine gate_dst (N := 15) rfl ?_); refine Kd.S_lit k43 _ 43 ?hg (N := 15) ?hd (xs := ([] : List (S43))) (inner := []) (ok := fun _ => True) (okp := fun _ => True) ?hr ?hp (fun _ hk => hk) trivial (Below.refl _ _) (Nat.le_refl _) (by simp) ?_; (case hd => rfl); (case hg => rfl); (case hr => first | (go_simp; done) | (go_simp; rfl)); (case hp => exact (Reps.none _ _)); intro v306 w12 ho13 hb hg_ hnew_; clear hg_ hnew_; (first | rw [← Ny305.out] at ho13 | (simp only [Int.reduceToNat] at ho13; rw [← Ny305.out] at ho13)); have n0 := aM_ (Kd.R_elder' (by (with_reducible repeat (first | apply rA_ | apply rN_ | apply rD_)); exact HO_305000.out) (Kd.S_base ho13) hb); have n1 := aM_ (Kd.S_lower ho13 (below_size (gB_ HB.out))); have n2 := aM_ (nB_ BK302.out hb); have n3 := aM_ (nB_ BK303.out hb); have n4 := aM_ (nB_ BK304.out hb); have n5 := aM_ (sT_ HB.out hb); clear HO_305000; clear BK302; clear BK303; clear BK304; clear HB; have HO_305000 := n0; have HO307 := n1; have BK302 := n2; have BK303 := n3; have BK304 := n4; have HB := n5; clear n0 n1 n2 n3 n4 n5; clear hb ho13))
    go_loopg [5, 6] k1 (fun kq v5 v6 w' => ∃ (x5_2 : List (S43)) (x6_2 : Int), v6 = .int .i64 x6_2 ∧ Aside0 (spec_l6Copy.l1 kq x4_1 x5_2 x6_2 l0_0 x3050_1 = some r) ∧ Aside0 (kq ≤ k1) ∧ Aside0 (Kd.S k43 43 w' w.heap.size (fun _ => True) v5 x5_2) ∧ Aside0 (Kd.R (Kd.slice 43 k43) 44 w' w00.heap.size (fun k_ => some k_ ≠ (v5 : Value).ownBlock) u3050 x3050_1) ∧ Aside0 (w'.heap[gb302]? = some (.cells #[(.slice A0_0 l0_0.length c0_0)] 24 (0, 0))) ∧ Aside0 (w'.heap[gb303]? = some (.cells #[(.slice none 0 0)] 24 (0, 0))) ∧ Aside0 (w'.heap[gb304]? = some (.cells #[u3050] 24 (0, 0))) ∧ Aside0 (Below w.heap.size w w'))
    case atStart => exact ⟨(y305), (0), (by first | rfl | (simp; done) | (simp [*]; done)), H', ⟨Nat.le_refl _⟩, ⟨by (with_reducible repeat (first | apply Kd.S_alloc | apply Kd.S_drewN | apply Kd.S_drew)); exact HO307.out⟩, ⟨by (with_reducible repeat (first | apply rA_ | apply rN_ | apply rD_)); exact Kd.R_mono HO_305000.out (fun _ hk => hk.2)⟩, ⟨rW_ BK302.out⟩, ⟨rW_ BK303.out⟩, ⟨rW_ BK304.out⟩, ⟨gW_ HB.out⟩⟩
    case round =>
     clear H'
     try clear c1
     try clear p2
     try clear c5
     try clear c6
     try clear c8
     try clear c8b0
     try clear c9
     try clear c10
     try clear hcz11_0 hfz11_0
     try clear hcz7_0 hfz7_0
     try clear p2
     obtain ⟨x5_2, x6_2, rfl, HA, HK2, HO_5, HO_305000, BK302, BK303, BK304, HB⟩ := hrel
     cases gk with
     | zero => exact absurd HA.out (by simp [spec_l6Copy.l1])
     | succ k2 =>
      have H := HA.out
      clear HA
      simp only [spec_l6Copy.l1] at H
      by_cases c14 : 0 ≤ x4_1
      ·rw [if_pos c14] at H
       have c14b0 : decide (0 ≤ x4_1) = true := decide_eq_true c14
       clear c14
       by_cases c15 : x4_1 < (l0_0.length : Int)
       ·rw [if_pos c15] at H
        have c15b0 : decide (x4_1 < (l0_0.length : Int)) = true := decide_eq_true c15
        clear c15
        by_cases c16 : x6_2 < ((rd_L3 l0_0 x4_1).length : Int)
        ·rw [if_pos c16] at H
         have c16b0 : decide (x6_2 < ((rd_L3 l0_0 x4_1).length : Int)) = true := decide_eq_true c16
         clear c16
         by_cases c17 : 0 ≤ x6_2
         ·rw [if_pos c17] at H
          have c17b0 : decide (0 ≤ x6_2) = true := decide_eq_true c17
          clear c17
          obtain ⟨y311, hy311⟩ : ∃ y_ : List Int, y_ = (([] : List Int)) := ⟨_, rfl⟩
          replace H : (if y311.length + ((rd_T43 (rd_L3 l0_0 x4_1) x6_2).f1).length < 17592186044416 then (if x5_2.length < 4398046511104 then (spec_l6Copy.l1 k2 x4_1 (x5_2 ++ [(⟨(rd_T43 (rd_L3 l0_0 x4_1) x6_2).f0, (y311 ++ ((rd_T43 (rd_L3 l0_0 x4_1) x6_2).f1))⟩ : S43)]) (wrap64 (x6_2 + 1)) l0_0 x3050_1) else (none)) else (none)) = some r := by first | (rw [hy311]; with_reducible exact H) | (have H2_ := (Option.bind_some _ _).symm.trans H; rw [hy311]; with_reducible exact H2_) | (have H2_ := (Option.bind_some _ _).symm.trans H; with_reducible exact H2_) | with_reducible exact H | (rw [hy311]; exact H) | exact H
          have Ny311 := aM_ hy311
          clear hy311
          by_cases c18 : y311.length + ((rd_T43 (rd_L3 l0_0 x4_1) x6_2).f1).length < 17592186044416
          ·rw [if_pos c18] at H
           have LMc18 := aM_ c18
           clear c18
           obtain ⟨y316, hy316⟩ : ∃ y_ : List Int, y_ = (y311 ++ ((rd_T43 (rd_L3 l0_0 x4_1) x6_2).f1)) := ⟨_, rfl⟩
           replace H : (if x5_2.length < 4398046511104 then (spec_l6Copy.l1 k2 x4_1 (x5_2 ++ [(⟨(rd_T43 (rd_L3 l0_0 x4_1) x6_2).f0, y316⟩ : S43)]) (wrap64 (x6_2 + 1)) l0_0 x3050_1) else (none)) = some r := by first | (rw [hy316]; with_reducible exact H) | (have H2_ := (Option.bind_some _ _).symm.trans H; rw [hy316]; with_reducible exact H2_) | (have H2_ := (Option.bind_some _ _).symm.trans H; with_reducible exact H2_) | with_reducible exact H | (rw [hy316]; exact H) | exact H
           have Ny316 := aM_ hy316
           clear hy316
           by_cases c19 : x5_2.length < 4398046511104
           ·rw [if_pos c19] at H
            have LMc19 := aM_ c19
            clear c19
            obtain ⟨y319, hy319⟩ : ∃ y_ : List (S43), y_ = (x5_2 ++ [(⟨(rd_T43 (rd_L3 l0_0 x4_1) x6_2).f0, y316⟩ : S43)]) := ⟨_, rfl⟩
            replace H : (spec_l6Copy.l1 k2 x4_1 y319 (wrap64 (x6_2 + 1)) l0_0 x3050_1) = some r := by first | (rw [hy319]; with_reducible exact H) | (have H2_ := (Option.bind_some _ _).symm.trans H; rw [hy319]; with_reducible exact H2_) | (have H2_ := (Option.bind_some _ _).symm.trans H; with_reducible exact H2_) | with_reducible exact H | (rw [hy319]; exact H) | exact H
            have Ny319 := aM_ hy319
            clear hy319
            have H' := aM_ H
            clear H
            have hnb20 := NB302_303.out
            have hnc20 := NB303_302.out
            have hnb21 := NB302_304.out
            have hnc21 := NB304_302.out
            have hcz22_0 : wr.cell? ⟨gb302, 0, none⟩ = some (.slice A0_0 l0_0.length c0_0) := (blk_cell BK302.out 0).trans rfl
            have hfz22_0 := blk_frozen BK302.out 0
            have p308 : 0 ≤ (x4_1 : Int) := of_decide_eq_true (by first | (with_reducible assumption) | assumption)
            have q308 : x4_1 < (l0_0.length : Int) := of_decide_eq_true (by first | (with_reducible assumption) | assumption)
            obtain ⟨ad308, A308_0, c308_0, e308, hx308_0, hl308_0, hi308_0⟩ := at_L3 HR0_0.out x4_1 p308 q308
            cases e308
            replace hx308_0 := cB_ HB.out hx308_0
            have HR308_0 := aM_ hi308_0
            have HC308_0 := aM_ hl308_0
            clear hi308_0 hl308_0
            replace p308 := eq_true p308
            replace q308 := eq_true q308
            try go_wp2
            have n0 := aM_ (Kd.S_drew HO_5.out)
            have n1 := aM_ (Kd.R_drew HO_305000.out)
            have n2 := aM_ (blk_drew BK302.out)
            have n3 := aM_ (blk_drew BK303.out)
            have n4 := aM_ (blk_drew BK304.out)
            have n5 := aM_ (below_drew1 HB.out)
            clear HO_5
            clear HO_305000
            clear BK302
            clear BK303
            clear BK304
            clear HB
            have HO_5 := n0
            have HO_305000 := n1
            have BK302 := n2
            have BK303 := n3
            have BK304 := n4
            have HB := n5
            clear n0 n1 n2 n3 n4 n5
            have p309 : 0 ≤ (x4_1 : Int) := of_decide_eq_true (by first | (with_reducible assumption) | assumption)
            have q309 : x4_1 < (l0_0.length : Int) := of_decide_eq_true (by first | (with_reducible assumption) | assumption)
            obtain ⟨ad309, A309_0, c309_0, e309, hx309_0, hl309_0, hi309_0⟩ := at_L3 HR0_0.out x4_1 p309 q309
            have hw309_0 := hx309_0
            obtain rfl : ad308 = ad309 := (by injection e309)
            replace hx309_0 := cB_ HB.out hx309_0
            have HR309_0 := aM_ hi309_0
            have HC309_0 := aM_ hl309_0
            clear hi309_0 hl309_0
            replace p309 := eq_true p309
            replace q309 := eq_true q309
            have p310 : 0 ≤ (x6_2 : Int) := of_decide_eq_true (by first | (with_reducible assumption) | assumption)
            have q310 : x6_2 < ((rd_L3 l0_0 x4_1).length : Int) := of_decide_eq_true (by first | (with_reducible assumption) | assumption)
            obtain ⟨ad310, A310_1, c310_1, e310, hx310_0, hx310_1, hl310_1, hi310_1⟩ := at_T43 HR309_0.out x6_2 p310 q310
            have hw310_1 := hx310_1
            have hw310_0 := hx310_0
            cases e310
            replace hx310_0 := cB_ HB.out hx310_0
            replace hx310_1 := cB_ HB.out hx310_1
            have HR310_1 := aM_ hi310_1
            have HC310_1 := aM_ hl310_1
            clear hi310_1 hl310_1
            replace p310 := eq_true p310
            replace q310 := eq_true q310
            have p314 : 0 ≤ (x4_1 : Int) := of_decide_eq_true (by first | (with_reducible assumption) | assumption)
            have q314 : x4_1 < (l0_0.length : Int) := of_decide_eq_true (by first | (with_reducible assumption) | assumption)
            obtain ⟨ad314, A314_0, c314_0, e314, hx314_0, hl314_0, hi314_0⟩ := at_L3 HR0_0.out x4_1 p314 q314
            have hw314_0 := hx314_0
            obtain rfl : ad308 = ad314 := (by injection e314)
            replace hx314_0 := cB_ HB.out hx314_0
            have HR314_0 := aM_ hi314_0
            have HC314_0 := aM_ hl314_0
            clear hi314_0 hl314_0
            replace p314 := eq_true p314
            replace q314 := eq_true q314
            have ea_ := Option.some.inj (hx309_0.symm.trans hx314_0)
            injection ea_ with ea_ en_ ec_
            subst ea_
            subst ec_
            clear en_
            have p315 : 0 ≤ (x6_2 : Int) := of_decide_eq_true (by first | (with_reducible assumption) | assumption)
            have q315 : x6_2 < ((rd_L3 l0_0 x4_1).length : Int) := of_decide_eq_true (by first | (with_reducible assumption) | assumption)
            obtain ⟨ad315, A315_1, c315_1, e315, hx315_0, hx315_1, hl315_1, hi315_1⟩ := at_T43 HR314_0.out x6_2 p315 q315
            have hw315_1 := hx315_1
            have hw315_0 := hx315_0
            cases e315
            replace hx315_0 := cB_ HB.out hx315_0
            replace hx315_1 := cB_ HB.out hx315_1
            have HR315_1 := aM_ hi315_1
            have HC315_1 := aM_ hl315_1
            clear hi315_1 hl315_1
            have ea_ := Option.some.inj (hx310_1.symm.trans hx315_1)
            injection ea_ with ea_ en_ ec_
            subst ea_
            subst ec_
            clear en_
            replace p315 := eq_true p315
            replace q315 := eq_true q315
            refine start_ (n := 25) (S := fun w' => w'.cell? ⟨gb302, 0, none⟩ = some (.slice (some ad308) l0_0.length c0_0) ∧ w'.cell? (ad308.add (x4_1).toNat) = some (.slice (some ad310) (rd_L3 l0_0 x4_1).length c309_0) ∧ w'.cell? (ad310.add ((x6_2).toNat * 2)) = some (.int .i64 ((rd_T43 (rd_L3 l0_0 x4_1) x6_2).f0)) ∧ w'.cell? ⟨(ad310.add ((x6_2).toNat * 2)).block, (ad310.add ((x6_2).toNat * 2)).off + 1, none⟩ = some (.slice A310_1 ((rd_T43 (rd_L3 l0_0 x4_1) x6_2).f1).length c310_1) ∧ w'.cell? (ad308.add (x4_1).toNat) = some (.slice (some ad310) (rd_L3 l0_0 x4_1).length c309_0) ∧ w'.cell? (ad310.add ((x6_2).toNat * 2)) = some (.int .i64 ((rd_T43 (rd_L3 l0_0 x4_1) x6_2).f0)) ∧ w'.cell? ⟨(ad310.add ((x6_2).toNat * 2)).block, (ad310.add ((x6_2).toNat * 2)).off + 1, none⟩ = some (.slice A310_1 ((rd_T43 (rd_L3 l0_0 x4_1) x6_2).f1).length c310_1)) (ds := []) (mk_ 25 0) (by kernel_rfl) rfl rfl ⟨(blk_cell BK302.out 0).trans rfl, (cB_ HB.out hw309_0 :), (cB_ HB.out hw310_0 :), (cB_ HB.out hw310_1 :), (cB_ HB.out hw314_0 :), (cB_ HB.out hw315_0 :), (cB_ HB.out hw315_1 :)⟩ (fun hHeld => ?_); refine with_tabW spec_l6Copy.tab9 spec_l6Copy.bits9 (fun HT_ HW_ => ?_)
            generalize wr.drew = w23 at HO_5 HO_305000 BK302 BK303 BK304 HB HR309_0 HR310_1 HR314_0 HR315_1 hx309_0 hx310_0 hx310_1 hx314_0 hx315_0 hx315_1 hHeld ⊢
            refine pU_ 0 (some 26) (mk_ 25 1) ?_
            refine pU_ 1 (some 27) (mk_ 25 3) ?_
            refine pU_ 3 (some 29) (mk_ 25 11) ?_
            refine pU_ 6 (some 32) (mk_ 25 75) ?_
            refine pU_ 11 (some 37) (mk_ 25 2123) ?_
            refine pU_ 13 (some 39) (mk_ 25 10315) ?_
            refine pU_ 16 (some 42) (mk_ 25 75851) ?_
            refine tK7_ 2 (some 28) (mk_ 25 75855) ?_
            refine pU_ 4 (some 30) (mk_ 25 75871) ?_
            refine tK7_ 5 (some 31) (mk_ 25 75903) ?_
            refine pU_ 7 (some 33) (mk_ 25 76031) ?_
            refine pU_ 8 (some 34) (mk_ 25 76287) ?_
            refine tK7_ 9 (some 35) (mk_ 25 76799) ?_
            refine tK7_ 12 (some 38) (mk_ 25 80895) ?_
            refine pU_ 14 (some 40) (mk_ 25 97279) ?_
            refine tK7_ 15 (some 41) (mk_ 25 130047) ?_
            refine pU_ 17 (some 43) (mk_ 25 261119) ?_
            refine pU_ 18 (some 44) (mk_ 25 523263) ?_
            refine tK7_ 19 (some 45) (mk_ 25 1047551) ?_
            refine oN_ 10 (some 36) (mk_ 25 1048575) (fun K hK => ?_)
            refine Kd.R_lit_step (Kd.int .i64) _ 3 ?hg (N := 36) ?hd (xs := ([] : List Int)) (inner := []) (ok := fun _ => True) (okp := fun _ => True) ?hr ?hp (fun _ hk => hk) trivial (Below.refl _ _) (Nat.le_refl _) (by simp) ?_; (case hd => rfl); (case hg => rfl); (case hr => first | (go_simp; done) | (go_simp; rfl)); (case hp => exact (Reps.none _ _))
            intro v312 w24 ho25 hb hg_ hnew_
            clear hg_ hnew_
            (first | rw [← Ny311.out] at ho25 | (simp only [Int.reduceToNat] at ho25; rw [← Ny311.out] at ho25))
            have n0 := aM_ (Kd.S_elder' (by (with_reducible repeat (first | apply Kd.S_alloc | apply Kd.S_drewN | apply Kd.S_drew)); exact HO_5.out) (Kd.R_base ho25) hb)
            have n1 := aM_ (Kd.R_elder' (by (with_reducible repeat (first | apply rA_ | apply rN_ | apply rD_)); exact HO_305000.out) (Kd.R_base ho25) hb)
            have n2 := aM_ (Kd.R_lower ho25 (below_size (gB_ HB.out)))
            have n3 := aM_ (nB_ BK302.out hb)
            have n4 := aM_ (nB_ BK303.out hb)
            have n5 := aM_ (nB_ BK304.out hb)
            have n6 := aM_ (sT_ HB.out hb)
            clear HO_5
            clear HO_305000
            clear BK302
            clear BK303
            clear BK304
            clear HB
            have HO_5 := n0
            have HO_305000 := n1
            have HO313 := n2
            have BK302 := n3
            have BK303 := n4
            have BK304 := n5
            have HB := n6
            clear n0 n1 n2 n3 n4 n5 n6
            clear hb ho25
            refine hK.out _ _ ⟨(blk_cell BK302.out 0).trans rfl, (cB_ HB.out hw309_0 :), (cB_ HB.out hw310_0 :), (cB_ HB.out hw310_1 :), (cB_ HB.out hw314_0 :), (cB_ HB.out hw315_0 :), (cB_ HB.out hw315_1 :)⟩ (fun hHeld => ?_)
            clear hK K
            refine norm_ (a' := ?_) ?_ ?_
            rotate_left
            ·show Act.put _ (some 36) _ = _
             simp only [pt_, pn_, sI_, s0_, s1_, i64_w, i32_w]
             rfl
            refine oN_ 20 (some 46) (mk_ 25 2097151) (fun K hK => ?_)
            refine Kd.R_append_rows_step (Kd.int .i64) (w0 := w) w.heap.size (by rfl) (.tmp 36) (.tmp 45) 31 3 (.int .i64 0) 8 rfl Try.underlying31 info3 rfl (by decide) (by omega) v312 y311 ((rd_T43 (rd_L3 l0_0 x4_1) x6_2).f1) _ _ _ (fun _ => True) (fun _ => False) rfl rfl ?aO ?aR (fun _ _ h => h) (fun _ h => h.elim) ?aF ?aB ?aS ?aL ?_
            (case aR => repeat (first | exact (Kd.C_below HR315_1.out HB.out) | (with_reducible refine Kd.C_alloc ?_ _) | (with_reducible refine Kd.C_drewN ?_ _) | (with_reducible refine Kd.C_drew ?_)))
            (case aB => exact (gB_ HB.out))
            (case aF => exact (fun _ _ => trivial))
            (case aO => exact (by (with_reducible repeat (first | apply rA_ | apply rN_ | apply rD_)); exact HO313.out))
            (case aS => exact (below_size (gB_ HB.out)))
            (case aL => have := LMc18.out; omega)
            intro v317 w26 ho hb hg hat
            rw [← Ny316.out] at ho
            have n0 := aM_ (Kd.S_after (ok := (fun _ => True)) (by (with_reducible repeat (first | apply Kd.S_alloc | apply Kd.S_drewN | apply Kd.S_drew)); exact HO_5.out) hg hat)
            have n1 := aM_ (Kd.R_after (ok := (fun k_ => some k_ ≠ (u5 : Value).ownBlock)) (by (with_reducible repeat (first | apply rA_ | apply rN_ | apply rD_)); exact HO_305000.out) hg hat)
            have n2 := aM_ (blk_grown (g := gb302) (o := .cells #[.slice (some ad308) l0_0.length c0_0] 24 (0, 0)) (by (with_reducible repeat (first | refine bN_ ?_ _ | refine bD_ ?_ | refine bA_ ?_ _)); exact BK302.out) hg (Kd.R_ne HO313.out BK302.out (by decide)))
            have n3 := aM_ (blk_grown (g := gb303) (o := .cells #[.slice none 0 0] 24 (0, 0)) (by (with_reducible repeat (first | refine bN_ ?_ _ | refine bD_ ?_ | refine bA_ ?_ _)); exact BK303.out) hg (Kd.R_ne HO313.out BK303.out (by decide)))
            have n4 := aM_ (blk_grown (g := gb304) (o := .cells #[u3050] 24 (0, 0)) (by (with_reducible repeat (first | refine bN_ ?_ _ | refine bD_ ?_ | refine bA_ ?_ _)); exact BK304.out) hg (Kd.R_ne HO313.out BK304.out (by decide)))
            have n5 := aM_ (hb)
            have n6 := aM_ (ho)
            clear HO_5
            clear HO_305000
            clear BK302
            clear BK303
            clear BK304
            clear HB
            clear HO313
            have HO_5 := n0
            have HO_305000 := n1
            have BK302 := n2
            have BK303 := n3
            have BK304 := n4
            have HB := n5
            have HO318 := n6
            clear n0 n1 n2 n3 n4 n5 n6
            clear ho hb hg hat
            obtain ⟨Ao27, co27, eo27⟩ := Kd.R_slice HO318.out
            (first | subst eo27 | (injection eo27 with f1_ f2_ f3_; have f4_ := f1_.symm; have f5_ := f3_.symm; clear f1_ f2_ f3_; subst f4_; subst f5_))
            refine hK.out _ _ ⟨(blk_cell BK302.out 0).trans rfl, (cB_ HB.out hw309_0 :), (cB_ HB.out hw310_0 :), (cB_ HB.out hw310_1 :), (cB_ HB.out hw314_0 :), (cB_ HB.out hw315_0 :), (cB_ HB.out hw315_1 :)⟩ (fun hHeld => ?_)
            clear hK K
            refine norm_ (a' := ?_) ?_ ?_
            rotate_left
            ·show Act.put _ (some 46) _ = _
             simp only [pt_, pn_, sI_, s0_, s1_, i64_w, i32_w]
             rfl
            refine pU_ 21 (some 47) (mk_ 25 4194303) ?_
            refine oN_ 22 (some 48) (mk_ 25 8388607) (fun K hK => ?_)
            refine value_ (w1 := ?_) (v := ?_) (by rfl) rfl ?_ ?_
            rotate_left 2
            ·go_simp
             constructor
             ·rfl
             ·rfl
            refine hK.out _ _ ⟨(blk_cell (blk_alloc BK302.out _) 0).trans rfl, (World.cell?_alloc_lt _ _ _ (World.block_lt_of_cell? _ _ ((cB_ HB.out hw309_0 :)))).trans ((cB_ HB.out hw309_0 :)), (World.cell?_alloc_lt _ _ _ (World.block_lt_of_cell? _ _ ((cB_ HB.out hw310_0 :)))).trans ((cB_ HB.out hw310_0 :)), (World.cell?_alloc_lt _ _ _ (World.block_lt_of_cell? _ _ ((cB_ HB.out hw310_1 :)))).trans ((cB_ HB.out hw310_1 :)), (World.cell?_alloc_lt _ _ _ (World.block_lt_of_cell? _ _ ((cB_ HB.out hw314_0 :)))).trans ((cB_ HB.out hw314_0 :)), (World.cell?_alloc_lt _ _ _ (World.block_lt_of_cell? _ _ ((cB_ HB.out hw315_0 :)))).trans ((cB_ HB.out hw315_0 :)), (World.cell?_alloc_lt _ _ _ (World.block_lt_of_cell? _ _ ((cB_ HB.out hw315_1 :)))).trans ((cB_ HB.out hw315_1 :))⟩ (fun hHeld => ?_)
            clear hK K
            refine norm_ (a' := ?_) ?_ ?_
            rotate_left
            ·show Act.put _ (some 48) _ = _
             simp only [pt_, pn_, sI_, s0_, s1_, i64_w, i32_w]
             rfl
            refine oN_ 23 (some 49) (mk_ 25 16777215) (fun K hK => ?_)
            refine Kd.S_append_step k43 (w0 := w) w.heap.size (by rfl) (.tmp 26) (.tmp 48) 44 43 (.agg #[(.int .i64 0), (.slice none 0 0)]) 32 rfl Try.underlying44 info43 rfl (by decide) (by omega) u5 x5_2 (⟨(rd_T43 (rd_L3 l0_0 x4_1) x6_2).f0, y316⟩ : S43) [.int .i64 ((rd_T43 (rd_L3 l0_0 x4_1) x6_2).f0), .slice Ao27 y316.length co27] (fun _ => True) (fun k_ => some k_ = (.slice Ao27 y316.length co27 : Value).ownBlock) rfl rfl ?aP (fun k_ hk_ => ((Kd.R_mono (ok' := fun k_ => ((fun _ => True)) k_ ∧ some k_ ≠ (u5 : Value).ownBlock) (Kd.R_apart' (HO318.out) (Kd.S_typed HO_5.out) (by decide)) (fun k_ hk => ⟨trivial, hk.2⟩))).1 k_ hk_.symm) ?aF ?aO ?aB ?aS ?aL ?_
            (case aP => exact k43_mkM _ _ _ (⟨(rd_T43 (rd_L3 l0_0 x4_1) x6_2).f0, y316⟩ : S43) (Kd.R_mono (Kd.R_tight rfl (Kd.R_mono (ok' := fun k_ => ((fun _ => True)) k_ ∧ some k_ ≠ (u5 : Value).ownBlock) (Kd.R_apart' (HO318.out) (Kd.S_typed HO_5.out) (by decide)) (fun k_ hk => ⟨trivial, hk.2⟩))) (fun _ h_ => h_)))
            (case aB => exact (gB_ HB.out))
            (case aF => exact (fun _ _ => trivial))
            (case aO => exact (by (with_reducible repeat (first | apply Kd.S_alloc | apply Kd.S_drewN | apply Kd.S_drew)); exact Kd.S_mono HO_5.out (fun k_ hk => ⟨trivial, fun e_ => hk.2 e_⟩)))
            (case aS => exact (below_size (gB_ HB.out)))
            (case aL => have := LMc19.out; omega)
            intro v320 w28 ho hb hg hat
            rw [← Ny319.out] at ho
            have n0 := aM_ (Kd.R_after (ok := (fun k_ => some k_ ≠ (.slice Ao27 y316.length co27 : Value).ownBlock)) (by (with_reducible repeat (first | apply rA_ | apply rN_ | apply rD_)); exact Kd.R_mono HO_305000.out (fun _ hk => ⟨hk.2, hk.1⟩)) hg hat)
            have n1 := aM_ (blk_grown (g := gb302) (o := .cells #[.slice (some ad308) l0_0.length c0_0] 24 (0, 0)) (by (with_reducible repeat (first | refine bN_ ?_ _ | refine bD_ ?_ | refine bA_ ?_ _)); exact BK302.out) hg (Kd.S_ne HO_5.out BK302.out (by decide)))
            have n2 := aM_ (blk_grown (g := gb303) (o := .cells #[.slice none 0 0] 24 (0, 0)) (by (with_reducible repeat (first | refine bN_ ?_ _ | refine bD_ ?_ | refine bA_ ?_ _)); exact BK303.out) hg (Kd.S_ne HO_5.out BK303.out (by decide)))
            have n3 := aM_ (blk_grown (g := gb304) (o := .cells #[u3050] 24 (0, 0)) (by (with_reducible repeat (first | refine bN_ ?_ _ | refine bD_ ?_ | refine bA_ ?_ _)); exact BK304.out) hg (Kd.S_ne HO_5.out BK304.out (by decide)))
            have n4 := aM_ (hb)
            have n5 := aM_ (ho)
            clear HO_305000
            clear BK302
            clear BK303
            clear BK304
            clear HB
            clear HO_5
            clear HO318
            have HO_305000 := n0
            have BK302 := n1
            have BK303 := n2
            have BK304 := n3
            have HB := n4
            have HO321 := n5
            clear n0 n1 n2 n3 n4 n5
            clear ho hb hg hat
            refine hK.out _ _ ⟨(blk_cell BK302.out 0).trans rfl, (cB_ HB.out hw309_0 :), (cB_ HB.out hw310_0 :), (cB_ HB.out hw310_1 :), (cB_ HB.out hw314_0 :), (cB_ HB.out hw315_0 :), (cB_ HB.out hw315_1 :)⟩ (fun hHeld => ?_)
            clear hK K
            refine norm_ (a' := ?_) ?_ ?_
            rotate_left
            ·show Act.put _ (some 49) _ = _
             simp only [pt_, pn_, sI_, s0_, s1_, i64_w, i32_w]
             rfl
            refine pU_ 24 (some 5) (mk_ 25 33554431) ?_
            refine done_ (done_of HT_.out (by kernel_rfl)) ?_
            try go_wp2
            go_roundg k2
            case measure => have := HK1.out; have := HK2.out; omega
            case rel => exact ⟨(y319), (wrap64 (x6_2 + 1)), (by first | rfl | (simp; done) | (simp [*]; done)), H', ⟨by have := HK1.out; have := HK2.out; omega⟩, ⟨by (with_reducible repeat (first | apply Kd.S_alloc | apply Kd.S_drewN | apply Kd.S_drew)); exact HO321.out⟩, ⟨by (with_reducible repeat (first | apply rA_ | apply rN_ | apply rD_)); exact Kd.R_mono HO_305000.out (fun _ hk => hk.2)⟩, ⟨rW_ BK302.out⟩, ⟨rW_ BK303.out⟩, ⟨rW_ BK304.out⟩, ⟨gW_ HB.out⟩⟩
           ·rw [if_neg c19] at H
            exact absurd H (by simp)
          ·rw [if_neg c18] at H
           exact absurd H (by simp)
         ·rw [if_neg c17] at H
          exact absurd H (by simp)
        ·rw [if_neg c16] at H
         have c16b0 : decide (x6_2 < ((rd_L3 l0_0 x4_1).length : Int)) = false := decide_eq_false c16
         clear c16
         by_cases c29 : x3050_1.length < 5864062014805
         ·rw [if_pos c29] at H
          have LMc29 := aM_ c29
          clear c29
          obtain ⟨y322, hy322⟩ : ∃ y_ : List (List (S43)), y_ = (x3050_1 ++ [x5_2]) := ⟨_, rfl⟩
          replace H : (spec_l6Copy.l0 k2 (wrap64 (x4_1 + 1)) l0_0 y322) = some r := by first | (rw [hy322]; with_reducible exact H) | (have H2_ := (Option.bind_some _ _).symm.trans H; rw [hy322]; with_reducible exact H2_) | (have H2_ := (Option.bind_some _ _).symm.trans H; with_reducible exact H2_) | with_reducible exact H | (rw [hy322]; exact H) | exact H
          have Ny322 := aM_ hy322
          clear hy322
          have H' := aM_ H
          clear H
          have hnb30 := NB302_303.out
          have hnc30 := NB303_302.out
          have hnb31 := NB302_304.out
          have hnc31 := NB304_302.out
          have hcz32_0 : wr.cell? ⟨gb302, 0, none⟩ = some (.slice A0_0 l0_0.length c0_0) := (blk_cell BK302.out 0).trans rfl
          have hfz32_0 := blk_frozen BK302.out 0
          have p308 : 0 ≤ (x4_1 : Int) := of_decide_eq_true (by first | (with_reducible assumption) | assumption)
          have q308 : x4_1 < (l0_0.length : Int) := of_decide_eq_true (by first | (with_reducible assumption) | assumption)
          obtain ⟨ad308, A308_0, c308_0, e308, hx308_0, hl308_0, hi308_0⟩ := at_L3 HR0_0.out x4_1 p308 q308
          cases e308
          replace hx308_0 := cB_ HB.out hx308_0
          have HR308_0 := aM_ hi308_0
          have HC308_0 := aM_ hl308_0
          clear hi308_0 hl308_0
          replace p308 := eq_true p308
          replace q308 := eq_true q308
          have hnb33 := NB304_303.out
          have hnc33 := NB303_304.out
          have hcz34_0 : wr.cell? ⟨gb304, 0, none⟩ = some (u3050) := (blk_cell BK304.out 0).trans rfl
          have hfz34_0 := blk_frozen BK304.out 0
          obtain ⟨Ao36, co36, eo36⟩ := Kd.S_slice HO_5.out
          subst eo36
          go_wp2_with (first | ((with_reducible refine gate_builtin (b := .append) (xs := #[.tmp 51, .tmp 53]) rfl ?_); at_builtin; refine Kd.S_append (sslice 43 k43) (w0 := w00) w00.heap.size rfl (.tmp 51) (.tmp 53) 22 44 (.slice none 0 0) 24 rfl Try.underlying22 info44 rfl (by decide) (by omega) u3050 x3050_1 x5_2 [.slice Ao36 x5_2.length co36] (fun _ => True) (fun k_ => w.heap.size ≤ k_) rfl rfl ?aP HF.out ?aF ?aO ?aB ?aS ?aL ?_; (case aP => exact ⟨_, rfl, Kd.S_lower (Kd.S_mono (Kd.S_bound HO_5.out) (fun _ hk => hk.2.1)) (below_size HBo.out)⟩); (case aB => exact (below_step HBo.out HB.out)); (case aF => exact (fun _ _ => trivial)); (case aO => exact (Kd.S_mono (Kd.S_old HSo.out HB.out) (fun _ hk => ⟨trivial, Nat.not_le.2 hk.2⟩))); (case aS => exact (below_size (below_step HBo.out HB.out))); (case aL => have := LMc29.out; omega); intro v323 w35 ho hb hg hat; rw [← Ny322.out] at ho; have n0 := aM_ (blk_grown (g := gb302) (o := .cells #[.slice (some ad308) l0_0.length c0_0] 24 (0, 0)) (by (with_reducible repeat (first | refine bN_ ?_ _ | refine bD_ ?_ | refine bA_ ?_ _)); exact BK302.out) hg (Kd.R_ne HO_305000.out BK302.out (by decide))); have n1 := aM_ (blk_grown (g := gb303) (o := .cells #[.slice none 0 0] 24 (0, 0)) (by (with_reducible repeat (first | refine bN_ ?_ _ | refine bD_ ?_ | refine bA_ ?_ _)); exact BK303.out) hg (Kd.R_ne HO_305000.out BK303.out (by decide))); have n2 := aM_ (blk_grown (g := gb304) (o := .cells #[u3050] 24 (0, 0)) (by (with_reducible repeat (first | refine bN_ ?_ _ | refine bD_ ?_ | refine bA_ ?_ _)); exact BK304.out) hg (Kd.R_ne HO_305000.out BK304.out (by decide))); have n3 := aM_ (hb); have n4 := aM_ (ho); clear BK302; clear BK303; clear BK304; clear HB; clear HO_305000; clear HO_5; have BK302 := n0; have BK303 := n1; have BK304 := n2; have HB := n3; have HO324 := n4; clear n0 n1 n2 n3 n4; clear ho hb hg hat; obtain ⟨Ao37, co37, eo37⟩ := Kd.S_slice HO324.out; subst eo37; have hcz38_0 : w35.cell? ⟨gb304, 0, none⟩ = some (u3050) := (blk_cell BK304.out 0).trans rfl; have hfz38_0 := blk_frozen BK304.out 0))
          go_roundg k2
          case measure => have := HK1.out; have := HK2.out; omega
          case rel => exact ⟨(wrap64 (x4_1 + 1)), (y322), (.slice Ao37 y322.length co37), (by first | rfl | (simp; done) | (simp [*]; done)), H', ⟨by have := HK1.out; have := HK2.out; omega⟩, ⟨by (with_reducible repeat (first | apply Kd.S_alloc | apply Kd.S_drewN | apply Kd.S_drew)); exact Kd.S_mono (Kd.S_far (p := ⟨gb304, 0, none⟩) (Kd.S_types HO324.out BK304.out (by decide)) (fun _ hk => hk.2) (.slice Ao37 y322.length co37)) (fun _ hk => trivial)⟩, ⟨by (with_reducible repeat (first | refine bN_ ?_ _ | refine bD_ ?_ | refine bA_ ?_ _)); refine blk_far ?_ NB302_304.out _; (with_reducible repeat (first | refine bN_ ?_ _ | refine bD_ ?_ | refine bA_ ?_ _)); exact BK302.out⟩, ⟨by (with_reducible repeat (first | refine bN_ ?_ _ | refine bD_ ?_ | refine bA_ ?_ _)); refine blk_far ?_ NB303_304.out _; (with_reducible repeat (first | refine bN_ ?_ _ | refine bD_ ?_ | refine bA_ ?_ _)); exact BK303.out⟩, ⟨by (with_reducible repeat (first | refine bN_ ?_ _ | refine bD_ ?_ | refine bA_ ?_ _)); refine blk_put (cs := #[u3050]) ?_ 0 _ rfl; (with_reducible repeat (first | refine bN_ ?_ _ | refine bD_ ?_ | refine bA_ ?_ _)); exact BK304.out⟩, ⟨gW_ HB.out⟩⟩
         ·rw [if_neg c29] at H
          exact absurd H (by simp)
       ·rw [if_neg c15] at H
        exact absurd H (by simp)
      ·rw [if_neg c14] at H
       exact absurd H (by simp)
   ·rw [if_neg c8] at H
    have c8b0 : decide (x4_1 < (l0_0.length : Int)) = false := decide_eq_false c8
    clear c8
    obtain rfl := Option.some.inj H
    have hnb39 := NB302_303.out
    have hnc39 := NB303_302.out
    have hnb40 := NB302_304.out
    have hnc40 := NB304_302.out
    have hcz41_0 : wr.cell? ⟨gb302, 0, none⟩ = some (.slice A0_0 l0_0.length c0_0) := (blk_cell BK302.out 0).trans rfl
    have hfz41_0 := blk_frozen BK302.out 0
    have hnb42 := NB304_303.out
    have hnc42 := NB303_304.out
    have hcz43_0 : wr.cell? ⟨gb304, 0, none⟩ = some (u3050) := (blk_cell BK304.out 0).trans rfl
    have hfz43_0 := blk_frozen BK304.out 0
    obtain ⟨Ao44, co44, eo44⟩ := Kd.S_slice HO_305000.out
    subst eo44
    have hcz45_0 : wr.cell? ⟨gb303, 0, none⟩ = some (.slice none 0 0) := (blk_cell BK303.out 0).trans rfl
    have hfz45_0 := blk_frozen BK303.out 0
    go_wp2
    refine bodyPost_ret (results_cell_row rfl _ _ gb303 24 #[.slice Ao44 x3050_1.length co44] (0, 0) _ rfl (by (with_reducible repeat (first | refine bN_ ?_ _ | refine bD_ ?_ | refine bA_ ?_ _)); refine blk_put (cs := #[.slice none 0 0]) ?_ 0 _ rfl; exact rW_ BK303.out) Try.underlying24 rfl (by kernel_rfl)) rfl ?_
    exact ⟨_, fR_, by (with_reducible repeat (first | apply Kd.S_alloc | apply Kd.S_drewN | apply Kd.S_drew)); exact Kd.S_mono (Kd.S_far (p := ⟨gb303, 0, none⟩) (Kd.S_types HO_305000.out BK303.out (by decide)) (fun _ hk => hk.2) (.slice Ao44 x3050_1.length co44)) (fun _ hk => trivial), gB_ HB.out⟩
end Go.Proofs.Ythbcnakmnbilhaa.PFnExactSwap
