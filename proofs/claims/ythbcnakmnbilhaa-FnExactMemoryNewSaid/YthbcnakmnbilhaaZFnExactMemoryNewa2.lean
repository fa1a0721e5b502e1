/- A part of the proof that the law FnExactMemoryNew holds for every input: the words, functions and walks that its row needs, without a condition of their own. -/
import Derived.Test.YthbcnakmnbilhaaZFnExactMemoryNewa1
import Derived.Test.YthbcnakmnbilhaaZFnExactMemoryNews
namespace Go.Proofs.Ythbcnakmnbilhaa.PFnExactMemoryNew
open Go.RowKit Go.Proofs.YthbcnakmnbilhaaW.PrintWords Go.Proofs.YthbcnakmnbilhaaW.PrintLast Go.Proofs.YthbcnakmnbilhaaW.PrintMore Go.Proofs.Ythbcnakmnbilhaa.SepMark
attribute [local go_sem] max2_int min2_int max_two min_two max_three min_three max_four min_four   -- for this text's walks alone
set_option linter.unusedVariables false
set_option linter.unusedSimpArgs false
def spec_MemoryNew.l0 : Nat → Int → List (List (S43)) → Option ((List (List (S43))))
  | 0, _, _ => none
  | k + 1, x2, x103000 => if x2 < 24 then (if 24 ≤ 35184372088832 then (if x103000.length < 5864062014805 then (spec_MemoryNew.l0 k (wrap64 (x2 + 1)) (x103000 ++ [(([(⟨0, (List.replicate 24 0)⟩ : S43)] : List (S43)))])) else (none)) else (none)) else (some x103000)
def spec_MemoryNew.f (k : Nat)  : Option ((List (List (S43)))) := spec_MemoryNew.l0 k 0 ([] : List (List (S43)))
def spec_MemoryNew.T5 : Bool × List (List Nat × List Nat) := (true, [([], []), ([0], [0]), ([], []), ([2], [2]), ([3], [3]), ([4], [4]), ([1, 5], [1, 5]), ([0, 1, 2, 3, 4, 5, 6], []), ([7, 6, 6, 0, 1, 2, 3, 4, 5, 6], [6, 7])])
def spec_MemoryNew.B5 : List Nat := [0, 1, 0, 4, 12, 28, 63, 127, 255]
theorem spec_MemoryNew.tab5 : rtab .any (opsOf Try.f13 5) = spec_MemoryNew.T5 := by kernel_rfl
theorem spec_MemoryNew.bits5 : waitsOk spec_MemoryNew.T5.2 spec_MemoryNew.B5 = true := by kernel_rfl
set_option maxHeartbeats 8000000 in
set_option maxRecDepth 100000 in
theorem spec_MemoryNew.calls (k : Nat)  (r : List (List (S43))) (w : World) (h : spec_MemoryNew.f k  = some r) :
  Calls Try.prog 13 #[] w fun e w' => ∃ v0_ : Value, e = .returned (.agg #[v0_]) ∧ Kd.S (sslice 43 k43) 44 w' w.heap.size (fun k_ => (w.heap.size ≤ k_)) v0_ r ∧ Below w.heap.size w w' := by
 have hu24 := Try.underlying24
 have hu43 := Try.underlying43
 have HB := aM_ (Below.refl w.heap.size w)
 have H : (spec_MemoryNew.l0 k 0 ([] : List (List (S43)))) = some r := h
 clear h
 have H' := aM_ H
 clear H
 go_enter Try.func13, Try.ntmps13
 go_wp2_with (first | ((with_reducible refine gate_dst (N := 0) rfl ?_); refine bX_ 0 (cs := #[.slice none 0 0]) (t := 24) ?_; intro gb101 hg w1 hbox hb; have n0 := aM_ (sT_ HB.out hb); have n1 := aM_ (hbox); have n2 := aM_ (sZ_ hg HB.out); have n3 := aM_ (sZ_ hg HB.out); clear HB; have HB := n0; have BK101 := n1; have GW101 := n2; have GE101 := n3; clear n0 n1 n2 n3; clear hb hbox hg) | ((with_reducible refine gate_dst (N := 1) rfl ?_); refine bX_ 1 (cs := #[.slice none 0 0]) (t := 24) ?_; intro gb102 hg w2 hbox hb; have n0 := aM_ (nB_ BK101.out hb); have n1 := aM_ (sT_ HB.out hb); have n2 := aM_ (hbox); have n3 := aM_ (sZ_ hg HB.out); have n4 := aM_ (sZ_ hg HB.out); have n5 := aM_ (nL_ hg BK101.out); have n6 := aM_ (nG_ hg BK101.out); clear BK101; clear HB; have BK101 := n0; have HB := n1; have BK102 := n2; have GW102 := n3; have GE102 := n4; have NB101_102 := n5; have NB102_101 := n6; clear n0 n1 n2 n3 n4 n5 n6; clear hb hbox hg; have hnb3 := NB102_101.out; have hnc3 := NB101_102.out; have hcz4_0 : w2.cell? ⟨gb102, 0, none⟩ = some (.slice none 0 0) := (blk_cell BK102.out 0).trans rfl; have hfz4_0 := blk_frozen BK102.out 0))
 go_loopg [2] k (fun kq v2 w' => ∃ (x2_1 : Int) (x1030_1 : List (List (S43))) (u1030 : Value), v2 = .int .i64 x2_1 ∧ Aside0 (spec_MemoryNew.l0 kq x2_1 x1030_1 = some r) ∧ Aside0 (kq ≤ k) ∧ Aside0 (Kd.S (sslice 43 k43) 44 w' w.heap.size (fun k_ => (w.heap.size ≤ k_) ∧ k_ ≠ gb101 ∧ k_ ≠ gb102) u1030 x1030_1) ∧ Aside0 (w'.heap[gb101]? = some (.cells #[(.slice none 0 0)] 24 (0, 0))) ∧ Aside0 (w'.heap[gb102]? = some (.cells #[u1030] 24 (0, 0))) ∧ Aside0 (Below w.heap.size w w'))
 case atStart => exact ⟨(0), (([] : List (List (S43)))), (.slice none 0 0), (by first | rfl | (simp; done) | (simp [*]; done)), H', ⟨Nat.le_refl _⟩, ⟨by first | exact Kd.R_nil _ _ _ _ _ | exact Kd.S_nil _ _ _ _ _ | exact Kd.V_nil _ _ _ _ _ | exact Kd.Q_nil _ _ _ _ _ | exact Kd.S_nil _ _ _ _ _⟩, ⟨by (with_reducible repeat (first | refine bN_ ?_ _ | refine bD_ ?_ | refine bA_ ?_ _)); refine blk_far ?_ NB101_102.out _; (with_reducible repeat (first | refine bN_ ?_ _ | refine bD_ ?_ | refine bA_ ?_ _)); exact BK101.out⟩, ⟨by (with_reducible repeat (first | refine bN_ ?_ _ | refine bD_ ?_ | refine bA_ ?_ _)); refine blk_put (cs := #[.slice none 0 0]) ?_ 0 _ rfl; (with_reducible repeat (first | refine bN_ ?_ _ | refine bD_ ?_ | refine bA_ ?_ _)); exact BK102.out⟩, ⟨gW_ HB.out⟩⟩
 case round =>
  clear H'
  try clear c1
  try clear p2
  try clear c3
  try clear hcz4_0 hfz4_0
  obtain ⟨x2_1, x1030_1, u1030, rfl, HA, HK1, HO_103000, BK101, BK102, HB⟩ := hrel
  cases gk with
  | zero => exact absurd HA.out (by simp [spec_MemoryNew.l0])
  | succ k1 =>
   have H := HA.out
   clear HA
   simp only [spec_MemoryNew.l0] at H
   by_cases c5 : x2_1 < 24
   ·rw [if_pos c5] at H
    have c5b0 : decide (x2_1 < 24) = true := decide_eq_true c5
    clear c5
    by_cases c6 : 24 ≤ 35184372088832
    ·rw [if_pos c6] at H
     have c6b0 := eq_true c6
     have c6b1 : decide (24 ≤ 35184372088832) = true := decide_eq_true c6
     clear c6
     obtain ⟨y103, hy103⟩ : ∃ y_ : List Int, y_ = (List.replicate 24 0) := ⟨_, rfl⟩
     replace H : (if x1030_1.length < 5864062014805 then (spec_MemoryNew.l0 k1 (wrap64 (x2_1 + 1)) (x1030_1 ++ [(([(⟨0, y103⟩ : S43)] : List (S43)))])) else (none)) = some r := by first | (rw [hy103]; with_reducible exact H) | (have H2_ := (Option.bind_some _ _).symm.trans H; rw [hy103]; with_reducible exact H2_) | (have H2_ := (Option.bind_some _ _).symm.trans H; with_reducible exact H2_) | with_reducible exact H | (rw [hy103]; exact H) | exact H
     have Ny103 := aM_ hy103
     clear hy103
     obtain ⟨y106, hy106⟩ : ∃ y_ : List (S43), y_ = (([(⟨0, y103⟩ : S43)] : List (S43))) := ⟨_, rfl⟩
     replace H : (if x1030_1.length < 5864062014805 then (spec_MemoryNew.l0 k1 (wrap64 (x2_1 + 1)) (x1030_1 ++ [y106])) else (none)) = some r := by first | (rw [hy106]; with_reducible exact H) | (have H2_ := (Option.bind_some _ _).symm.trans H; rw [hy106]; with_reducible exact H2_) | (have H2_ := (Option.bind_some _ _).symm.trans H; with_reducible exact H2_) | with_reducible exact H | (rw [hy106]; exact H) | exact H
     have Ny106 := aM_ hy106
     clear hy106
     by_cases c7 : x1030_1.length < 5864062014805
     ·rw [if_pos c7] at H
      have LMc7 := aM_ c7
      clear c7
      obtain ⟨y109, hy109⟩ : ∃ y_ : List (List (S43)), y_ = (x1030_1 ++ [y106]) := ⟨_, rfl⟩
      replace H : (spec_MemoryNew.l0 k1 (wrap64 (x2_1 + 1)) y109) = some r := by first | (rw [hy109]; with_reducible exact H) | (have H2_ := (Option.bind_some _ _).symm.trans H; rw [hy109]; with_reducible exact H2_) | (have H2_ := (Option.bind_some _ _).symm.trans H; with_reducible exact H2_) | with_reducible exact H | (rw [hy109]; exact H) | exact H
      have Ny109 := aM_ hy109
      clear hy109
      have H' := aM_ H
      clear H
      try go_wp2
      have n0 := aM_ (Kd.S_drew HO_103000.out)
      have n1 := aM_ (blk_drew BK101.out)
      have n2 := aM_ (blk_drew BK102.out)
      have n3 := aM_ (below_drew1 HB.out)
      clear HO_103000
      clear BK101
      clear BK102
      clear HB
      have HO_103000 := n0
      have BK101 := n1
      have BK102 := n2
      have HB := n3
      clear n0 n1 n2 n3
      refine start_ (n := 9) (S := fun w' => w'.cell? ⟨gb102, 0, none⟩ = some (u1030)) (ds := [8]) #[false, false, false, false, false, false, false, false, false] (by kernel_rfl) rfl rfl ((blk_cell BK102.out 0).trans rfl) (fun hHeld => ?_); refine with_tabW spec_MemoryNew.tab5 spec_MemoryNew.bits5 (fun HT_ HW_ => ?_)
      generalize wr.drew = w8 at HO_103000 BK101 BK102 HB hHeld ⊢
      have HF := aM_ (show ∀ k, w8.heap.size ≤ k → (w.heap.size ≤ k ∧ k ≠ gb101 ∧ k ≠ gb102) ∧ some k ≠ (u1030 : Value).ownBlock from fun k hk => ⟨⟨Nat.le_trans (below_size HB.out) hk, fun e => by have := blk_lt BK101.out; omega, fun e => by have := blk_lt BK102.out; omega⟩, fun e => by have := Kd.S_lt HO_103000.out k e.symm; omega⟩)
      replace HO_103000 := aM_ (Kd.S_mono (ok' := fun k_ => ((w.heap.size ≤ k_) ∧ k_ ≠ gb101 ∧ k_ ≠ gb102) ∧ k_ < w8.heap.size) (Kd.S_bound HO_103000.out) (fun k hk => ⟨hk.1, hk.2.2.1⟩))
      refine pU_ 0 (some 8) (mk_ 9 1) ?_
      refine take_ (i := 1) (N := some 9) (v := ?_) (a' := ?_) #[true, true, false, false, false, false, false, false, false] rfl rfl (take_ofW HT_.out HW_.out (by kernel_rfl)) (fun _ _ _ h => h) (Or.inl ⟨by rfl, ?_⟩) hHeld ?_ ?_
      rotate_left
      ·intro w' s0
       go_simp
       with_reducible rfl
      rotate_left
      ·simp only [pt_, pn_, sI_, s0_, s1_, i64_w, i32_w]
       rfl
      refine oN_ 2 (some 10) (mk_ 9 7) (fun K hK => ?_)
      refine Kd.R_make_step (Kd.int .i64) _ 3 (by rfl) (N := 10) rfl 31 _ _ rfl 24 rfl rfl Try.underlying31 (.int .i64 0) 8 info3 rfl (by decide) (by omega) 0 (ok := fun _ => True) (okp := fun _ => True) rfl (fun _ hk => hk) trivial (by omega) (by omega) (Below.refl _ _) (Nat.le_refl _) ?_
      intro v104 w9 ho10 hb hg_ hnew_
      have HS9 := aM_ hb.size
      clear hg_ hnew_
      (first | rw [← Ny103.out] at ho10 | (simp only [Int.reduceToNat] at ho10; rw [← Ny103.out] at ho10))
      have n0 := aM_ (Kd.S_elder' (by (with_reducible repeat (first | apply Kd.S_alloc | apply Kd.S_drewN | apply Kd.S_drew)); exact HO_103000.out) (Kd.R_base ho10) hb)
      have n1 := aM_ (Kd.R_lower (Kd.R_newM (M := fun k_ => (w8.heap.size ≤ k_)) ho10 (Nat.le_refl _) (fun k_ h_ => h_)) (below_size (gB_ HB.out)))
      have n2 := aM_ (nB_ BK101.out hb)
      have n3 := aM_ (nB_ BK102.out hb)
      have n4 := aM_ (sT_ HB.out hb)
      clear HO_103000
      clear BK101
      clear BK102
      clear HB
      have HO_103000 := n0
      have HO105 := n1
      have BK101 := n2
      have BK102 := n3
      have HB := n4
      clear n0 n1 n2 n3 n4
      clear hb ho10
      obtain ⟨Ao11, co11, eo11⟩ := Kd.R_slice HO105.out
      (first | subst eo11 | (injection eo11 with f1_ f2_ f3_; have f4_ := f1_.symm; have f5_ := f3_.symm; clear f1_ f2_ f3_; subst f4_; subst f5_))
      refine hK.out _ _ ((blk_cell BK102.out 0).trans rfl) (fun hHeld => ?_)
      clear hK K
      refine norm_ (a' := ?_) ?_ ?_
      rotate_left
      ·show Act.put _ (some 10) _ = _
       simp only [pt_, pn_, sI_, s0_, s1_, i64_w, i32_w]
       rfl
      refine pU_ 3 (some 11) (mk_ 9 15) ?_
      refine oN_ 4 (some 12) (mk_ 9 31) (fun K hK => ?_)
      refine Kd.R_lit_step k43 w.heap.size 43 ?hg (N := 12) ?hd (xs := ([(⟨0, y103⟩ : S43)] : List (S43))) (inner := [.int .i64 0, .slice Ao11 y103.length co11]) (ok := (fun k_ => (w8.heap.size ≤ k_))) (okp := (fun k_ => (w8.heap.size ≤ k_))) ?hr ?hp (fun _ hk => hk) (HS9.out) (Below.refl _ _) (below_size (gB_ HB.out)) (by simp) ?_; (case hd => rfl); (case hg => rfl); (case hr => first | (go_simp; done) | (go_simp; rfl)); (case hp => exact (Reps.c2 (show k43.M _ _ _ (⟨0, y103⟩ : S43) [.int .i64 0, .slice Ao11 y103.length co11] from k43_mkM _ _ _ (⟨0, y103⟩ : S43) (Kd.R_mono HO105.out (fun _ hk => hk.1))) (Reps.none _ _)))
      intro v107 w12 ho13 hb0_ hg_ hnew_
      have hb : Below w9.heap.size w9 w12 := (Below.refl w9.heap.size w9).grown hg_ (Nat.le_refl _) (by simp)
      replace ho13 := S_one ho13
      have hbs_ : ∀ k, v107.ownBlock = some k → w9.heap.size ≤ k := fun k hk => by obtain ⟨b, h1, h2⟩ := hnew_; rw [h1] at hk; cases hk; exact h2
      clear hb0_ hg_ hnew_
      (first | rw [← Ny106.out] at ho13 | (simp only [Int.reduceToNat] at ho13; rw [← Ny106.out] at ho13))
      have n0 := aM_ (Kd.S_elder' (by (with_reducible repeat (first | apply Kd.S_alloc | apply Kd.S_drewN | apply Kd.S_drew)); exact HO_103000.out) hbs_ hb)
      have n1 := aM_ (Kd.S_lower ho13 (Nat.le_refl _))
      have n2 := aM_ (nB_ BK101.out hb)
      have n3 := aM_ (nB_ BK102.out hb)
      have n4 := aM_ (sT_ HB.out hb)
      clear HO_103000
      clear BK101
      clear BK102
      clear HB
      clear HO105
      have HO_103000 := n0
      have HO108 := n1
      have BK101 := n2
      have BK102 := n3
      have HB := n4
      clear n0 n1 n2 n3 n4
      clear hb ho13
      obtain ⟨Ao15, co15, eo15⟩ := Kd.S_slice HO108.out
      (first | subst eo15 | (injection eo15 with f1_ f2_ f3_; have f4_ := f1_.symm; have f5_ := f3_.symm; clear f1_ f2_ f3_; subst f4_; subst f5_))
      refine hK.out _ _ ((blk_cell BK102.out 0).trans rfl) (fun hHeld => ?_)
      clear hK K
      refine norm_ (a' := ?_) ?_ ?_
      rotate_left
      ·show Act.put _ (some 12) _ = _
       simp only [pt_, pn_, sI_, s0_, s1_, i64_w, i32_w]
       rfl
      refine oN_ 5 (some 13) (mk_ 9 63) (fun K hK => ?_)
      refine value_ (w1 := ?_) (v := ?_) (by rfl) rfl ?_ ?_
      rotate_left 2
      ·go_simp
       constructor
       ·rfl
       ·rfl
      refine hK.out _ _ ((blk_cell (blk_alloc BK102.out _) 0).trans rfl) (fun hHeld => ?_)
      clear hK K
      refine norm_ (a' := ?_) ?_ ?_
      rotate_left
      ·show Act.put _ (some 13) _ = _
       simp only [pt_, pn_, sI_, s0_, s1_, i64_w, i32_w]
       rfl
      refine oN_ 6 (some 14) (mk_ 9 127) (fun K hK => ?_)
      refine Kd.S_append_step (sslice 43 k43) (w0 := w) w.heap.size (by rfl) (.tmp 9) (.tmp 13) 22 44 (.slice none 0 0) 24 rfl Try.underlying22 info44 rfl (by decide) (by omega) u1030 x1030_1 y106 [.slice Ao15 y106.length co15] (fun k_ => (w.heap.size ≤ k_) ∧ k_ ≠ gb101 ∧ k_ ≠ gb102) (fun k_ => (w8.heap.size ≤ k_)) rfl rfl ?aP HF.out ?aF ?aO ?aB ?aS ?aL ?_
      (case aP => exact ⟨_, rfl, HO108.out⟩)
      (case aB => exact (gB_ HB.out))
      (case aF => exact (fun k_ hk => ⟨(Nat.le_trans (below_size (gB_ HB.out)) hk), Kd.freshB (g := gb101) (o := .cells #[.slice none 0 0] 24 (0, 0)) (by (with_reducible repeat (first | refine bN_ ?_ _ | refine bD_ ?_ | refine bA_ ?_ _)); exact BK101.out) k_ hk, Kd.freshB (g := gb102) (o := .cells #[u1030] 24 (0, 0)) (by (with_reducible repeat (first | refine bN_ ?_ _ | refine bD_ ?_ | refine bA_ ?_ _)); exact BK102.out) k_ hk⟩))
      (case aO => exact Kd.S_mono HO_103000.out (fun _ hk => ⟨hk.1.1.1, fun h => absurd h (Nat.not_le.2 hk.1.1.2)⟩))
      (case aS => exact (below_size (gB_ HB.out)))
      (case aL => have := LMc7.out; omega)
      intro v110 w14 ho hb hg hat
      rw [← Ny109.out] at ho
      have n0 := aM_ (blk_grown (g := gb101) (o := .cells #[.slice none 0 0] 24 (0, 0)) (by (with_reducible repeat (first | refine bN_ ?_ _ | refine bD_ ?_ | refine bA_ ?_ _)); exact BK101.out) hg (Kd.S_ne HO_103000.out BK101.out (by decide)))
      have n1 := aM_ (blk_grown (g := gb102) (o := .cells #[u1030] 24 (0, 0)) (by (with_reducible repeat (first | refine bN_ ?_ _ | refine bD_ ?_ | refine bA_ ?_ _)); exact BK102.out) hg (Kd.S_ne HO_103000.out BK102.out (by decide)))
      have n2 := aM_ (hb)
      have n3 := aM_ (ho)
      clear BK101
      clear BK102
      clear HB
      clear HO_103000
      clear HO108
      have BK101 := n0
      have BK102 := n1
      have HB := n2
      have HO111 := n3
      clear n0 n1 n2 n3
      clear ho hb hg hat
      obtain ⟨Ao16, co16, eo16⟩ := Kd.S_slice HO111.out
      (first | subst eo16 | (injection eo16 with f1_ f2_ f3_; have f4_ := f1_.symm; have f5_ := f3_.symm; clear f1_ f2_ f3_; subst f4_; subst f5_))
      refine hK.out _ _ ((blk_cell BK102.out 0).trans rfl) (fun hHeld => ?_)
      clear hK K
      refine norm_ (a' := ?_) ?_ ?_
      rotate_left
      ·show Act.put _ (some 14) _ = _
       simp only [pt_, pn_, sI_, s0_, s1_, i64_w, i32_w]
       rfl
      refine pU_ 7 (some 15) (mk_ 9 255) ?_
      refine last_ (i := 8) (N := none) #[true, true, true, true, true, true, true, true, true] rfl rfl (one_of HT_.out (by kernel_rfl)) (by decide) (fun K hK => ?_)
      have hs17 : w14.cell? ⟨gb102, 0, none⟩ = some (u1030) := (blk_cell BK102.out 0).trans rfl
      have hfs17 := blk_frozen BK102.out 0
      have hns17_0 := NB101_102.out
      have hms17_0 := NB102_101.out
      refine skip_ (w1 := ?_) (by rfl) rfl ?_ ?_
      rotate_left
      ·go_simp
       rfl
      refine hK.out _ _ ?_
      clear hK K
      refine done_ (done_of HT_.out (by kernel_rfl)) ?_
      try go_wp2
      go_roundg k1
      case measure => have := HK1.out; omega
      case rel => exact ⟨(wrap64 (x2_1 + 1)), (y109), (.slice Ao16 y109.length co16), (by first | rfl | (simp; done) | (simp [*]; done)), H', ⟨by have := HK1.out; omega⟩, ⟨by (with_reducible repeat (first | apply Kd.S_alloc | apply Kd.S_drewN | apply Kd.S_drew)); exact Kd.S_mono (Kd.S_far (p := ⟨gb102, 0, none⟩) (Kd.S_mono HO111.out (fun k_ hk => (⟨hk, hk.2.2⟩ : _ ∧ k_ ≠ gb102))) (fun _ hk => hk.2) (.slice Ao16 y109.length co16)) (fun _ hk => ⟨hk.1.1, ⟨hk.1.2.1, hk.1.2.2⟩⟩)⟩, ⟨by (with_reducible repeat (first | refine bN_ ?_ _ | refine bD_ ?_ | refine bA_ ?_ _)); refine blk_far ?_ NB101_102.out _; (with_reducible repeat (first | refine bN_ ?_ _ | refine bD_ ?_ | refine bA_ ?_ _)); exact BK101.out⟩, ⟨by (with_reducible repeat (first | refine bN_ ?_ _ | refine bD_ ?_ | refine bA_ ?_ _)); refine blk_put (cs := #[u1030]) ?_ 0 _ rfl; (with_reducible repeat (first | refine bN_ ?_ _ | refine bD_ ?_ | refine bA_ ?_ _)); exact BK102.out⟩, ⟨gW_ HB.out⟩⟩
     ·rw [if_neg c7] at H
      exact absurd H (by simp)
    ·rw [if_neg c6] at H
     exact absurd H (by simp)
   ·rw [if_neg c5] at H
    have c5b0 : decide (x2_1 < 24) = false := decide_eq_false c5
    clear c5
    obtain rfl := Option.some.inj H
    have hnb18 := NB102_101.out
    have hnc18 := NB101_102.out
    have hcz19_0 : wr.cell? ⟨gb102, 0, none⟩ = some (u1030) := (blk_cell BK102.out 0).trans rfl
    have hfz19_0 := blk_frozen BK102.out 0
    obtain ⟨Ao20, co20, eo20⟩ := Kd.S_slice HO_103000.out
    subst eo20
    have hcz21_0 : wr.cell? ⟨gb101, 0, none⟩ = some (.slice none 0 0) := (blk_cell BK101.out 0).trans rfl
    have hfz21_0 := blk_frozen BK101.out 0
    go_wp2
    refine bodyPost_ret (results_cell_row rfl _ _ gb101 24 #[.slice Ao20 x1030_1.length co20] (0, 0) _ rfl (by (with_reducible repeat (first | refine bN_ ?_ _ | refine bD_ ?_ | refine bA_ ?_ _)); refine blk_put (cs := #[.slice none 0 0]) ?_ 0 _ rfl; exact rW_ BK101.out) Try.underlying24 rfl (by kernel_rfl)) rfl ?_
    exact ⟨_, fR_, by (with_reducible repeat (first | apply Kd.S_alloc | apply Kd.S_drewN | apply Kd.S_drew)); exact Kd.S_mono (Kd.S_far (p := ⟨gb101, 0, none⟩) (Kd.S_mono HO_103000.out (fun k_ hk => (⟨hk, hk.2.1⟩ : _ ∧ k_ ≠ gb101))) (fun _ hk => hk.2) (.slice Ao20 x1030_1.length co20)) (fun _ hk => hk.1.1), gB_ HB.out⟩
def impl_MemoryNew.l0 : Nat → Int → List (List (S43)) → Option ((List (List (S43))))
  | 0, _, _ => none
  | k + 1, x3, x114000 => if x3 < 24 then (if 24 ≤ 35184372088832 then (if x114000.length < 5864062014805 then (impl_MemoryNew.l0 k (wrap64 (x3 + 1)) (x114000 ++ [(([(⟨0, (List.replicate 24 0)⟩ : S43)] : List (S43)))])) else (none)) else (none)) else (some x114000)
def impl_MemoryNew.f (k : Nat)  : Option ((List (List (S43)))) := impl_MemoryNew.l0 k 0 ([] : List (List (S43)))
def impl_MemoryNew.T4 : Bool × List (List Nat × List Nat) := (true, [([], []), ([0], [0]), ([], []), ([2], [2]), ([3], [3]), ([4], [4]), ([1, 5], [1, 5]), ([0, 1, 2, 3, 4, 5, 6], []), ([7, 6, 6, 0, 1, 2, 3, 4, 5, 6], [6, 7])])
def impl_MemoryNew.B4 : List Nat := [0, 1, 0, 4, 12, 28, 63, 127, 255]
theorem impl_MemoryNew.tab4 : rtab .any (opsOf Try.f14 4) = impl_MemoryNew.T4 := by kernel_rfl
theorem impl_MemoryNew.bits4 : waitsOk impl_MemoryNew.T4.2 impl_MemoryNew.B4 = true := by kernel_rfl
set_option maxHeartbeats 8000000 in
set_option maxRecDepth 100000 in
theorem impl_MemoryNew.calls (k : Nat)  (r : List (List (S43))) (w : World) (h : impl_MemoryNew.f k  = some r) :
  Calls Try.prog 14 #[] w fun e w' => ∃ v0_ : Value, e = .returned (.agg #[v0_]) ∧ Kd.S (sslice 43 k43) 44 w' w.heap.size (fun k_ => (w.heap.size ≤ k_)) v0_ r ∧ Below w.heap.size w w' := by
 have hu24 := Try.underlying24
 have hu43 := Try.underlying43
 have HB := aM_ (Below.refl w.heap.size w)
 have H : (impl_MemoryNew.l0 k 0 ([] : List (List (S43)))) = some r := h
 clear h
 have H' := aM_ H
 clear H
 go_enter Try.func14, Try.ntmps14
 go_wp2_with (first | ((with_reducible refine gate_dst (N := 0) rfl ?_); refine bX_ 0 (cs := #[.slice none 0 0]) (t := 24) ?_; intro gb112 hg w1 hbox hb; have n0 := aM_ (sT_ HB.out hb); have n1 := aM_ (hbox); have n2 := aM_ (sZ_ hg HB.out); have n3 := aM_ (sZ_ hg HB.out); clear HB; have HB := n0; have BK112 := n1; have GW112 := n2; have GE112 := n3; clear n0 n1 n2 n3; clear hb hbox hg) | ((with_reducible refine gate_dst (N := 1) rfl ?_); refine bX_ 1 (cs := #[.slice none 0 0]) (t := 24) ?_; intro gb113 hg w2 hbox hb; have n0 := aM_ (nB_ BK112.out hb); have n1 := aM_ (sT_ HB.out hb); have n2 := aM_ (hbox); have n3 := aM_ (sZ_ hg HB.out); have n4 := aM_ (sZ_ hg HB.out); have n5 := aM_ (nL_ hg BK112.out); have n6 := aM_ (nG_ hg BK112.out); clear BK112; clear HB; have BK112 := n0; have HB := n1; have BK113 := n2; have GW113 := n3; have GE113 := n4; have NB112_113 := n5; have NB113_112 := n6; clear n0 n1 n2 n3 n4 n5 n6; clear hb hbox hg; have hnb3 := NB113_112.out; have hnc3 := NB112_113.out; have hcz4_0 : w2.cell? ⟨gb113, 0, none⟩ = some (.slice none 0 0) := (blk_cell BK113.out 0).trans rfl; have hfz4_0 := blk_frozen BK113.out 0))
 go_loopg [3] k (fun kq v3 w' => ∃ (x3_1 : Int) (x1140_1 : List (List (S43))) (u1140 : Value), v3 = .int .i64 x3_1 ∧ Aside0 (impl_MemoryNew.l0 kq x3_1 x1140_1 = some r) ∧ Aside0 (kq ≤ k) ∧ Aside0 (Kd.S (sslice 43 k43) 44 w' w.heap.size (fun k_ => (w.heap.size ≤ k_) ∧ k_ ≠ gb112 ∧ k_ ≠ gb113) u1140 x1140_1) ∧ Aside0 (w'.heap[gb112]? = some (.cells #[(.slice none 0 0)] 24 (0, 0))) ∧ Aside0 (w'.heap[gb113]? = some (.cells #[u1140] 24 (0, 0))) ∧ Aside0 (Below w.heap.size w w'))
 case atStart => exact ⟨(0), (([] : List (List (S43)))), (.slice none 0 0), (by first | rfl | (simp; done) | (simp [*]; done)), H', ⟨Nat.le_refl _⟩, ⟨by first | exact Kd.R_nil _ _ _ _ _ | exact Kd.S_nil _ _ _ _ _ | exact Kd.V_nil _ _ _ _ _ | exact Kd.Q_nil _ _ _ _ _ | exact Kd.S_nil _ _ _ _ _⟩, ⟨by (with_reducible repeat (first | refine bN_ ?_ _ | refine bD_ ?_ | refine bA_ ?_ _)); refine blk_far ?_ NB112_113.out _; (with_reducible repeat (first | refine bN_ ?_ _ | refine bD_ ?_ | refine bA_ ?_ _)); exact BK112.out⟩, ⟨by (with_reducible repeat (first | refine bN_ ?_ _ | refine bD_ ?_ | refine bA_ ?_ _)); refine blk_put (cs := #[.slice none 0 0]) ?_ 0 _ rfl; (with_reducible repeat (first | refine bN_ ?_ _ | refine bD_ ?_ | refine bA_ ?_ _)); exact BK113.out⟩, ⟨gW_ HB.out⟩⟩
 case round =>
  clear H'
  try clear c1
  try clear p2
  try clear c3
  try clear hcz4_0 hfz4_0
  obtain ⟨x3_1, x1140_1, u1140, rfl, HA, HK1, HO_114000, BK112, BK113, HB⟩ := hrel
  cases gk with
  | zero => exact absurd HA.out (by simp [impl_MemoryNew.l0])
  | succ k1 =>
   have H := HA.out
   clear HA
   simp only [impl_MemoryNew.l0] at H
   by_cases c5 : x3_1 < 24
   ·rw [if_pos c5] at H
    have c5b0 : decide (x3_1 < 24) = true := decide_eq_true c5
    clear c5
    by_cases c6 : 24 ≤ 35184372088832
    ·rw [if_pos c6] at H
     have c6b0 := eq_true c6
     have c6b1 : decide (24 ≤ 35184372088832) = true := decide_eq_true c6
     clear c6
     obtain ⟨y114, hy114⟩ : ∃ y_ : List Int, y_ = (List.replicate 24 0) := ⟨_, rfl⟩
     replace H : (if x1140_1.length < 5864062014805 then (impl_MemoryNew.l0 k1 (wrap64 (x3_1 + 1)) (x1140_1 ++ [(([(⟨0, y114⟩ : S43)] : List (S43)))])) else (none)) = some r := by first | (rw [hy114]; with_reducible exact H) | (have H2_ := (Option.bind_some _ _).symm.trans H; rw [hy114]; with_reducible exact H2_) | (have H2_ := (Option.bind_some _ _).symm.trans H; with_reducible exact H2_) | with_reducible exact H | (rw [hy114]; exact H) | exact H
     have Ny114 := aM_ hy114
     clear hy114
     obtain ⟨y117, hy117⟩ : ∃ y_ : List (S43), y_ = (([(⟨0, y114⟩ : S43)] : List (S43))) := ⟨_, rfl⟩
     replace H : (if x1140_1.length < 5864062014805 then (impl_MemoryNew.l0 k1 (wrap64 (x3_1 + 1)) (x1140_1 ++ [y117])) else (none)) = some r := by first | (rw [hy117]; with_reducible exact H) | (have H2_ := (Option.bind_some _ _).symm.trans H; rw [hy117]; with_reducible exact H2_) | (have H2_ := (Option.bind_some _ _).symm.trans H; with_reducible exact H2_) | with_reducible exact H | (rw [hy117]; exact H) | exact H
     have Ny117 := aM_ hy117
     clear hy117
     by_cases c7 : x1140_1.length < 5864062014805
     ·rw [if_pos c7] at H
      have LMc7 := aM_ c7
      clear c7
      obtain ⟨y120, hy120⟩ : ∃ y_ : List (List (S43)), y_ = (x1140_1 ++ [y117]) := ⟨_, rfl⟩
      replace H : (impl_MemoryNew.l0 k1 (wrap64 (x3_1 + 1)) y120) = some r := by first | (rw [hy120]; with_reducible exact H) | (have H2_ := (Option.bind_some _ _).symm.trans H; rw [hy120]; with_reducible exact H2_) | (have H2_ := (Option.bind_some _ _).symm.trans H; with_reducible exact H2_) | with_reducible exact H | (rw [hy120]; exact H) | exact H
      have Ny120 := aM_ hy120
      clear hy120
      have H' := aM_ H
      clear H
      try go_wp2
      have n0 := aM_ (Kd.S_drew HO_114000.out)
      have n1 := aM_ (blk_drew BK112.out)
      have n2 := aM_ (blk_drew BK113.out)
      have n3 := aM_ (below_drew1 HB.out)
      clear HO_114000
      clear BK112
      clear BK113
      clear HB
      have HO_114000 := n0
      have BK112 := n1
      have BK113 := n2
      have HB := n3
      clear n0 n1 n2 n3
      refine start_ (n := 9) (S := fun w' => w'.cell? ⟨gb113, 0, none⟩ = some (u1140)) (ds := [8]) #[false, false, false, false, false, false, false, false, false] (by kernel_rfl) rfl rfl ((blk_cell BK113.out 0).trans rfl) (fun hHeld => ?_); refine with_tabW impl_MemoryNew.tab4 impl_MemoryNew.bits4 (fun HT_ HW_ => ?_)
      generalize wr.drew = w8 at HO_114000 BK112 BK113 HB hHeld ⊢
      have HF := aM_ (show ∀ k, w8.heap.size ≤ k → (w.heap.size ≤ k ∧ k ≠ gb112 ∧ k ≠ gb113) ∧ some k ≠ (u1140 : Value).ownBlock from fun k hk => ⟨⟨Nat.le_trans (below_size HB.out) hk, fun e => by have := blk_lt BK112.out; omega, fun e => by have := blk_lt BK113.out; omega⟩, fun e => by have := Kd.S_lt HO_114000.out k e.symm; omega⟩)
      replace HO_114000 := aM_ (Kd.S_mono (ok' := fun k_ => ((w.heap.size ≤ k_) ∧ k_ ≠ gb112 ∧ k_ ≠ gb113) ∧ k_ < w8.heap.size) (Kd.S_bound HO_114000.out) (fun k hk => ⟨hk.1, hk.2.2.1⟩))
      refine pU_ 0 (some 5) (mk_ 9 1) ?_
      refine take_ (i := 1) (N := some 6) (v := ?_) (a' := ?_) #[true, true, false, false, false, false, false, false, false] rfl rfl (take_ofW HT_.out HW_.out (by kernel_rfl)) (fun _ _ _ h => h) (Or.inl ⟨by rfl, ?_⟩) hHeld ?_ ?_
      rotate_left
      ·intro w' s0
       go_simp
       with_reducible rfl
      rotate_left
      ·simp only [pt_, pn_, sI_, s0_, s1_, i64_w, i32_w]
       rfl
      refine oN_ 2 (some 7) (mk_ 9 7) (fun K hK => ?_)
      refine Kd.R_make_step (Kd.int .i64) _ 3 (by rfl) (N := 7) rfl 31 _ _ rfl 24 rfl rfl Try.underlying31 (.int .i64 0) 8 info3 rfl (by decide) (by omega) 0 (ok := fun _ => True) (okp := fun _ => True) rfl (fun _ hk => hk) trivial (by omega) (by omega) (Below.refl _ _) (Nat.le_refl _) ?_
      intro v115 w9 ho10 hb hg_ hnew_
      have HS9 := aM_ hb.size
      clear hg_ hnew_
      (first | rw [← Ny114.out] at ho10 | (simp only [Int.reduceToNat] at ho10; rw [← Ny114.out] at ho10))
      have n0 := aM_ (Kd.S_elder' (by (with_reducible repeat (first | apply Kd.S_alloc | apply Kd.S_drewN | apply Kd.S_drew)); exact HO_114000.out) (Kd.R_base ho10) hb)
      have n1 := aM_ (Kd.R_lower (Kd.R_newM (M := fun k_ => (w8.heap.size ≤ k_)) ho10 (Nat.le_refl _) (fun k_ h_ => h_)) (below_size (gB_ HB.out)))
      have n2 := aM_ (nB_ BK112.out hb)
      have n3 := aM_ (nB_ BK113.out hb)
      have n4 := aM_ (sT_ HB.out hb)
      clear HO_114000
      clear BK112
      clear BK113
      clear HB
      have HO_114000 := n0
      have HO116 := n1
      have BK112 := n2
      have BK113 := n3
      have HB := n4
      clear n0 n1 n2 n3 n4
      clear hb ho10
      obtain ⟨Ao11, co11, eo11⟩ := Kd.R_slice HO116.out
      (first | subst eo11 | (injection eo11 with f1_ f2_ f3_; have f4_ := f1_.symm; have f5_ := f3_.symm; clear f1_ f2_ f3_; subst f4_; subst f5_))
      refine hK.out _ _ ((blk_cell BK113.out 0).trans rfl) (fun hHeld => ?_)
      clear hK K
      refine norm_ (a' := ?_) ?_ ?_
      rotate_left
      ·show Act.put _ (some 7) _ = _
       simp only [pt_, pn_, sI_, s0_, s1_, i64_w, i32_w]
       rfl
      refine pU_ 3 (some 8) (mk_ 9 15) ?_
      refine oN_ 4 (some 9) (mk_ 9 31) (fun K hK => ?_)
      refine Kd.R_lit_step k43 w.heap.size 43 ?hg (N := 9) ?hd (xs := ([(⟨0, y114⟩ : S43)] : List (S43))) (inner := [.int .i64 0, .slice Ao11 y114.length co11]) (ok := (fun k_ => (w8.heap.size ≤ k_))) (okp := (fun k_ => (w8.heap.size ≤ k_))) ?hr ?hp (fun _ hk => hk) (HS9.out) (Below.refl _ _) (below_size (gB_ HB.out)) (by simp) ?_; (case hd => rfl); (case hg => rfl); (case hr => first | (go_simp; done) | (go_simp; rfl)); (case hp => exact (Reps.c2 (show k43.M _ _ _ (⟨0, y114⟩ : S43) [.int .i64 0, .slice Ao11 y114.length co11] from k43_mkM _ _ _ (⟨0, y114⟩ : S43) (Kd.R_mono HO116.out (fun _ hk => hk.1))) (Reps.none _ _)))
      intro v118 w12 ho13 hb0_ hg_ hnew_
      have hb : Below w9.heap.size w9 w12 := (Below.refl w9.heap.size w9).grown hg_ (Nat.le_refl _) (by simp)
      replace ho13 := S_one ho13
      have hbs_ : ∀ k, v118.ownBlock = some k → w9.heap.size ≤ k := fun k hk => by obtain ⟨b, h1, h2⟩ := hnew_; rw [h1] at hk; cases hk; exact h2
      clear hb0_ hg_ hnew_
      (first | rw [← Ny117.out] at ho13 | (simp only [Int.reduceToNat] at ho13; rw [← Ny117.out] at ho13))
      have n0 := aM_ (Kd.S_elder' (by (with_reducible repeat (first | apply Kd.S_alloc | apply Kd.S_drewN | apply Kd.S_drew)); exact HO_114000.out) hbs_ hb)
      have n1 := aM_ (Kd.S_lower ho13 (Nat.le_refl _))
      have n2 := aM_ (nB_ BK112.out hb)
      have n3 := aM_ (nB_ BK113.out hb)
      have n4 := aM_ (sT_ HB.out hb)
      clear HO_114000
      clear BK112
      clear BK113
      clear HB
      clear HO116
      have HO_114000 := n0
      have HO119 := n1
      have BK112 := n2
      have BK113 := n3
      have HB := n4
      clear n0 n1 n2 n3 n4
      clear hb ho13
      obtain ⟨Ao15, co15, eo15⟩ := Kd.S_slice HO119.out
      (first | subst eo15 | (injection eo15 with f1_ f2_ f3_; have f4_ := f1_.symm; have f5_ := f3_.symm; clear f1_ f2_ f3_; subst f4_; subst f5_))
      refine hK.out _ _ ((blk_cell BK113.out 0).trans rfl) (fun hHeld => ?_)
      clear hK K
      refine norm_ (a' := ?_) ?_ ?_
      rotate_left
      ·show Act.put _ (some 9) _ = _
       simp only [pt_, pn_, sI_, s0_, s1_, i64_w, i32_w]
       rfl
      refine oN_ 5 (some 10) (mk_ 9 63) (fun K hK => ?_)
      refine value_ (w1 := ?_) (v := ?_) (by rfl) rfl ?_ ?_
      rotate_left 2
      ·go_simp
       constructor
       ·rfl
       ·rfl
      refine hK.out _ _ ((blk_cell (blk_alloc BK113.out _) 0).trans rfl) (fun hHeld => ?_)
      clear hK K
      refine norm_ (a' := ?_) ?_ ?_
      rotate_left
      ·show Act.put _ (some 10) _ = _
       simp only [pt_, pn_, sI_, s0_, s1_, i64_w, i32_w]
       rfl
      refine oN_ 6 (some 11) (mk_ 9 127) (fun K hK => ?_)
      refine Kd.S_append_step (sslice 43 k43) (w0 := w) w.heap.size (by rfl) (.tmp 6) (.tmp 10) 22 44 (.slice none 0 0) 24 rfl Try.underlying22 info44 rfl (by decide) (by omega) u1140 x1140_1 y117 [.slice Ao15 y117.length co15] (fun k_ => (w.heap.size ≤ k_) ∧ k_ ≠ gb112 ∧ k_ ≠ gb113) (fun k_ => (w8.heap.size ≤ k_)) rfl rfl ?aP HF.out ?aF ?aO ?aB ?aS ?aL ?_
      (case aP => exact ⟨_, rfl, HO119.out⟩)
      (case aB => exact (gB_ HB.out))
      (case aF => exact (fun k_ hk => ⟨(Nat.le_trans (below_size (gB_ HB.out)) hk), Kd.freshB (g := gb112) (o := .cells #[.slice none 0 0] 24 (0, 0)) (by (with_reducible repeat (first | refine bN_ ?_ _ | refine bD_ ?_ | refine bA_ ?_ _)); exact BK112.out) k_ hk, Kd.freshB (g := gb113) (o := .cells #[u1140] 24 (0, 0)) (by (with_reducible repeat (first | refine bN_ ?_ _ | refine bD_ ?_ | refine bA_ ?_ _)); exact BK113.out) k_ hk⟩))
      (case aO => exact Kd.S_mono HO_114000.out (fun _ hk => ⟨hk.1.1.1, fun h => absurd h (Nat.not_le.2 hk.1.1.2)⟩))
      (case aS => exact (below_size (gB_ HB.out)))
      (case aL => have := LMc7.out; omega)
      intro v121 w14 ho hb hg hat
      rw [← Ny120.out] at ho
      have n0 := aM_ (blk_grown (g := gb112) (o := .cells #[.slice none 0 0] 24 (0, 0)) (by (with_reducible repeat (first | refine bN_ ?_ _ | refine bD_ ?_ | refine bA_ ?_ _)); exact BK112.out) hg (Kd.S_ne HO_114000.out BK112.out (by decide)))
      have n1 := aM_ (blk_grown (g := gb113) (o := .cells #[u1140] 24 (0, 0)) (by (with_reducible repeat (first | refine bN_ ?_ _ | refine bD_ ?_ | refine bA_ ?_ _)); exact BK113.out) hg (Kd.S_ne HO_114000.out BK113.out (by decide)))
      have n2 := aM_ (hb)
      have n3 := aM_ (ho)
      clear BK112
      clear BK113
      clear HB
      clear HO_114000
      clear HO119
      have BK112 := n0
      have BK113 := n1
      have HB := n2
      have HO122 := n3
      clear n0 n1 n2 n3
      clear ho hb hg hat
      obtain ⟨Ao16, co16, eo16⟩ := Kd.S_slice HO122.out
      (first | subst eo16 | (injection eo16 with f1_ f2_ f3_; have f4_ := f1_.symm; have f5_ := f3_.symm; clear f1_ f2_ f3_; subst f4_; subst f5_))
      refine hK.out _ _ ((blk_cell BK113.out 0).trans rfl) (fun hHeld => ?_)
      clear hK K
      refine norm_ (a' := ?_) ?_ ?_
      rotate_left
      ·show Act.put _ (some 11) _ = _
       simp only [pt_, pn_, sI_, s0_, s1_, i64_w, i32_w]
       rfl
      refine pU_ 7 (some 12) (mk_ 9 255) ?_
      refine last_ (i := 8) (N := none) #[true, true, true, true, true, true, true, true, true] rfl rfl (one_of HT_.out (by kernel_rfl)) (by decide) (fun K hK => ?_)
      have hs17 : w14.cell? ⟨gb113, 0, none⟩ = some (u1140) := (blk_cell BK113.out 0).trans rfl
      have hfs17 := blk_frozen BK113.out 0
      have hns17_0 := NB112_113.out
      have hms17_0 := NB113_112.out
      refine skip_ (w1 := ?_) (by rfl) rfl ?_ ?_
      rotate_left
      ·go_simp
       rfl
      refine hK.out _ _ ?_
      clear hK K
      refine done_ (done_of HT_.out (by kernel_rfl)) ?_
      try go_wp2
      go_roundg k1
      case measure => have := HK1.out; omega
      case rel => exact ⟨(wrap64 (x3_1 + 1)), (y120), (.slice Ao16 y120.length co16), (by first | rfl | (simp; done) | (simp [*]; done)), H', ⟨by have := HK1.out; omega⟩, ⟨by (with_reducible repeat (first | apply Kd.S_alloc | apply Kd.S_drewN | apply Kd.S_drew)); exact Kd.S_mono (Kd.S_far (p := ⟨gb113, 0, none⟩) (Kd.S_mono HO122.out (fun k_ hk => (⟨hk, hk.2.2⟩ : _ ∧ k_ ≠ gb113))) (fun _ hk => hk.2) (.slice Ao16 y120.length co16)) (fun _ hk => ⟨hk.1.1, ⟨hk.1.2.1, hk.1.2.2⟩⟩)⟩, ⟨by (with_reducible repeat (first | refine bN_ ?_ _ | refine bD_ ?_ | refine bA_ ?_ _)); refine blk_far ?_ NB112_113.out _; (with_reducible repeat (first | refine bN_ ?_ _ | refine bD_ ?_ | refine bA_ ?_ _)); exact BK112.out⟩, ⟨by (with_reducible repeat (first | refine bN_ ?_ _ | refine bD_ ?_ | refine bA_ ?_ _)); refine blk_put (cs := #[u1140]) ?_ 0 _ rfl; (with_reducible repeat (first | refine bN_ ?_ _ | refine bD_ ?_ | refine bA_ ?_ _)); exact BK113.out⟩, ⟨gW_ HB.out⟩⟩
     ·rw [if_neg c7] at H
      exact absurd H (by simp)
    ·rw [if_neg c6] at H
     exact absurd H (by simp)
   ·rw [if_neg c5] at H
    have c5b0 : decide (x3_1 < 24) = false := decide_eq_false c5
    clear c5
    obtain rfl := Option.some.inj H
    have hnb18 := NB113_112.out
    have hnc18 := NB112_113.out
    have hcz19_0 : wr.cell? ⟨gb113, 0, none⟩ = some (u1140) := (blk_cell BK113.out 0).trans rfl
    have hfz19_0 := blk_frozen BK113.out 0
    obtain ⟨Ao20, co20, eo20⟩ := Kd.S_slice HO_114000.out
    subst eo20
    have hcz21_0 : wr.cell? ⟨gb112, 0, none⟩ = some (.slice none 0 0) := (blk_cell BK112.out 0).trans rfl
    have hfz21_0 := blk_frozen BK112.out 0
    go_wp2
    refine bodyPost_ret (results_cell_row rfl _ _ gb112 24 #[.slice Ao20 x1140_1.length co20] (0, 0) _ rfl (by (with_reducible repeat (first | refine bN_ ?_ _ | refine bD_ ?_ | refine bA_ ?_ _)); refine blk_put (cs := #[.slice none 0 0]) ?_ 0 _ rfl; exact rW_ BK112.out) Try.underlying24 rfl (by kernel_rfl)) rfl ?_
    exact ⟨_, fR_, by (with_reducible repeat (first | apply Kd.S_alloc | apply Kd.S_drewN | apply Kd.S_drew)); exact Kd.S_mono (Kd.S_far (p := ⟨gb112, 0, none⟩) (Kd.S_mono HO_114000.out (fun k_ hk => (⟨hk, hk.2.1⟩ : _ ∧ k_ ≠ gb112))) (fun _ hk => hk.2) (.slice Ao20 x1140_1.length co20)) (fun _ hk => hk.1.1), gB_ HB.out⟩
def laws_eqIntS.l0 : Nat → List Int → List Int → Int → Option (Bool)
  | 0, _, _, _ => none
  | k + 1, x0, x1, x5 => if x5 < (x0.length : Int) then (if 0 ≤ x5 then (if x5 < (x1.length : Int) then (if (rd x0 x5) = (rd x1 x5) then (laws_eqIntS.l0 k x0 x1 (wrap64 (x5 + 1))) else (some false)) else (none)) else (none)) else (some true)
def laws_eqIntS.f (k : Nat) (l0 : List Int) (l1 : List Int) : Option (Bool) := if (l0.length : Int) = (l1.length : Int) then (laws_eqIntS.l0 k l0 l1 0) else (some false)
set_option maxHeartbeats 8000000 in
set_option maxRecDepth 100000 in
theorem laws_eqIntS.calls (k : Nat) (A0 : Option Addr) (c0 : Nat) (l0 : List Int) (A1 : Option Addr) (c1 : Nat) (l1 : List Int) (r : Bool) (w : World) (hr0 : Kd.C (Kd.int .i64) w A0 l0.length l0) (hc0 : l0.length ≤ c0) (hr1 : Kd.C (Kd.int .i64) w A1 l1.length l1) (hc1 : l1.length ≤ c1) (h : laws_eqIntS.f k l0 l1 = some r) :
  Calls Try.prog 33 #[.slice A0 l0.length c0, .slice A1 l1.length c1] w fun e w' => e = .returned (.bool r) ∧ Drawn0 w w' := by
 have HR0 := aM_ hr0
 have HC0 := aM_ hc0
 clear hr0 hc0
 have HR1 := aM_ hr1
 have HC1 := aM_ hc1
 clear hr1 hc1
 have H : (if (l0.length : Int) = (l1.length : Int) then (laws_eqIntS.l0 k l0 l1 0) else (some false)) = some r := h
 clear h
 by_cases c3 : (l0.length : Int) = (l1.length : Int)
 ·rw [if_pos c3] at H
  have c3b0 : ((l0.length : Int) == (l1.length : Int)) = true := beq_iff_eq.mpr c3
  have c3b1 : ((l0.length : Int) != (l1.length : Int)) = false := bne_eq_false_iff_eq.mpr c3
  have c3b2 : (l0.length == l1.length) = true := by first | simpa using c3 | (simp at c3 ⊢; omega)
  clear c3
  have H' := aM_ H
  clear H
  go_enter Try.func33, Try.ntmps33
  go_wp2
  repeat (go_quiet (fail); try go_wp2)
  go_loopg [5] k (fun kq v5 w' => ∃ (x5_1 : Int), v5 = .int .i64 x5_1 ∧ Aside0 (laws_eqIntS.l0 kq l0 l1 x5_1 = some r) ∧ Aside0 (kq ≤ k) ∧ Drawn0 w w')
  case atStart => exact ⟨(0), (by first | rfl | (simp; done) | (simp [*]; done)), H', ⟨Nat.le_refl _⟩, by repeat (first | exact Drawn0.refl _ | apply Drawn0.step)⟩
  case round =>
   clear H'
   try clear c1
   try clear p2
   try clear c3
   try clear c3b0
   try clear c3b1
   try clear c3b2
   obtain ⟨x5_1, rfl, HA, HK1, ⟨m1, rfl⟩⟩ := hrel
   cases gk with
   | zero => exact absurd HA.out (by simp [laws_eqIntS.l0])
   | succ k1 =>
    have H := HA.out
    clear HA
    simp only [laws_eqIntS.l0] at H
    by_cases c4 : x5_1 < (l0.length : Int)
    ·rw [if_pos c4] at H
     have c4b0 : decide (x5_1 < (l0.length : Int)) = true := decide_eq_true c4
     clear c4
     by_cases c5 : 0 ≤ x5_1
     ·rw [if_pos c5] at H
      have c5b0 : decide (0 ≤ x5_1) = true := decide_eq_true c5
      clear c5
      by_cases c6 : x5_1 < (l1.length : Int)
      ·rw [if_pos c6] at H
       have c6b0 : decide (x5_1 < (l1.length : Int)) = true := decide_eq_true c6
       clear c6
       by_cases c7 : (rd l0 x5_1) = (rd l1 x5_1)
       ·rw [if_pos c7] at H
        have c7b0 : ((rd l0 x5_1) == (rd l1 x5_1)) = true := beq_iff_eq.mpr c7
        have c7b1 : ((rd l0 x5_1) != (rd l1 x5_1)) = false := bne_eq_false_iff_eq.mpr c7
        clear c7
        have H' := aM_ H
        clear H
        have p123 : 0 ≤ (x5_1 : Int) := of_decide_eq_true (by first | (with_reducible assumption) | assumption)
        have q123 : x5_1 < (l0.length : Int) := of_decide_eq_true (by first | (with_reducible assumption) | assumption)
        obtain ⟨ad123, e123, hx123_0⟩ := Kd.at_int HR0.out x5_1 p123 q123
        cases e123
        replace p123 := eq_true p123
        replace q123 := eq_true q123
        have p124 : 0 ≤ (x5_1 : Int) := of_decide_eq_true (by first | (with_reducible assumption) | assumption)
        have q124 : x5_1 < (l1.length : Int) := of_decide_eq_true (by first | (with_reducible assumption) | assumption)
        obtain ⟨ad124, e124, hx124_0⟩ := Kd.at_int HR1.out x5_1 p124 q124
        cases e124
        replace p124 := eq_true p124
        replace q124 := eq_true q124
        go_wp2
        repeat (go_quiet (fail); try go_wp2)
        go_roundg k1
        case measure => have := HK1.out; omega
        case rel => exact ⟨(wrap64 (x5_1 + 1)), (by first | rfl | (simp; done) | (simp [*]; done)), H', ⟨by have := HK1.out; omega⟩, by repeat (first | exact Drawn0.refl _ | apply Drawn0.step)⟩
       ·rw [if_neg c7] at H
        have c7b0 : ((rd l0 x5_1) == (rd l1 x5_1)) = false := beq_eq_false_iff_ne.mpr c7
        have c7b1 : ((rd l0 x5_1) != (rd l1 x5_1)) = true := bne_iff_ne.mpr c7
        obtain rfl := Option.some.inj H
        have p123 : 0 ≤ (x5_1 : Int) := of_decide_eq_true (by first | (with_reducible assumption) | assumption)
        have q123 : x5_1 < (l0.length : Int) := of_decide_eq_true (by first | (with_reducible assumption) | assumption)
        obtain ⟨ad123, e123, hx123_0⟩ := Kd.at_int HR0.out x5_1 p123 q123
        cases e123
        replace p123 := eq_true p123
        replace q123 := eq_true q123
        have p124 : 0 ≤ (x5_1 : Int) := of_decide_eq_true (by first | (with_reducible assumption) | assumption)
        have q124 : x5_1 < (l1.length : Int) := of_decide_eq_true (by first | (with_reducible assumption) | assumption)
        obtain ⟨ad124, e124, hx124_0⟩ := Kd.at_int HR1.out x5_1 p124 q124
        cases e124
        replace p124 := eq_true p124
        replace q124 := eq_true q124
        go_wp2
        repeat (go_quiet (fail); try go_wp2)
        go_ret
        exact ⟨by first | rfl | (simp; done) | (simp [*]; done), by repeat (first | exact Drawn0.refl _ | apply Drawn0.step)⟩
      ·rw [if_neg c6] at H
       exact absurd H (by simp)
     ·rw [if_neg c5] at H
      exact absurd H (by simp)
    ·rw [if_neg c4] at H
     have c4b0 : decide (x5_1 < (l0.length : Int)) = false := decide_eq_false c4
     clear c4
     obtain rfl := Option.some.inj H
     go_wp2
     repeat (go_quiet (fail); try go_wp2)
     go_ret
     exact ⟨by first | rfl | (simp; done) | (simp [*]; done), by repeat (first | exact Drawn0.refl _ | apply Drawn0.step)⟩
 ·rw [if_neg c3] at H
  have c3b0 : ((l0.length : Int) == (l1.length : Int)) = false := beq_eq_false_iff_ne.mpr c3
  have c3b1 : ((l0.length : Int) != (l1.length : Int)) = true := bne_iff_ne.mpr c3
  have c3b2 : (l0.length == l1.length) = false := by first | simpa using c3 | (simp at c3 ⊢; omega)
  obtain rfl := Option.some.inj H
  go_enter Try.func33, Try.ntmps33
  go_wp2
  repeat (go_quiet (fail); try go_wp2)
  go_ret
  exact ⟨by first | rfl | (simp; done) | (simp [*]; done), by repeat (first | exact Drawn0.refl _ | apply Drawn0.step)⟩
def laws_eqWrite.f (k : Nat) (a0_0 : Int) (l0_1 : List Int) (a1_0 : Int) (l1_1 : List Int) : Option (Bool) := if a0_0 = a1_0 then ((laws_eqIntS.f k l0_1 l1_1).bind fun t127 => (if t127 = true then (some true) else (some false))) else (some false)
set_option maxHeartbeats 8000000 in
set_option maxRecDepth 100000 in
theorem laws_eqWrite.calls (k : Nat) (a0_0 : Int) (A0_1 : Option Addr) (c0_1 : Nat) (l0_1 : List Int) (a1_0 : Int) (A1_1 : Option Addr) (c1_1 : Nat) (l1_1 : List Int) (r : Bool) (w : World) (hr0_1 : Kd.C (Kd.int .i64) w A0_1 l0_1.length l0_1) (hc0_1 : l0_1.length ≤ c0_1) (hr1_1 : Kd.C (Kd.int .i64) w A1_1 l1_1.length l1_1) (hc1_1 : l1_1.length ≤ c1_1) (h : laws_eqWrite.f k a0_0 l0_1 a1_0 l1_1 = some r) :
  Calls Try.prog 112 #[.agg #[.int .i64 a0_0, .slice A0_1 l0_1.length c0_1], .agg #[.int .i64 a1_0, .slice A1_1 l1_1.length c1_1]] w fun e w' => e = .returned (.bool r) ∧ Below w.heap.size w w' := by
 have hu43 := Try.underlying43
 have HR0_1 := aM_ hr0_1
 have HC0_1 := aM_ hc0_1
 clear hr0_1 hc0_1
 have HR1_1 := aM_ hr1_1
 have HC1_1 := aM_ hc1_1
 clear hr1_1 hc1_1
 have HB := aM_ (Below.refl w.heap.size w)
 have H : (if a0_0 = a1_0 then ((laws_eqIntS.f k l0_1 l1_1).bind fun t127 => (if t127 = true then (some true) else (some false))) else (some false)) = some r := h
 clear h
 by_cases c3 : a0_0 = a1_0
 ·rw [if_pos c3] at H
  have c3b0 : (a0_0 == a1_0) = true := beq_iff_eq.mpr c3
  have c3b1 : (a0_0 != a1_0) = false := bne_eq_false_iff_eq.mpr c3
  clear c3
  replace H := Option.bind_eq_some_iff.mp H
  obtain ⟨t127, A40, H⟩ := H
  replace H : (if t127 = true then (some true) else (some false)) = some r := H
  have A4 := aM_ A40
  clear A40
  by_cases c5 : t127 = true
  ·subst c5
   have H1 : (some true) = some r := by rw [if_pos rfl] at H; exact H
   clear H
   have H := H1
   clear H1
   obtain rfl := Option.some.inj H
   go_enter Try.func112, Try.ntmps112
   go_wp2_with (first | ((with_reducible refine gate_dst (N := 2) rfl ?_); refine bX_ 2 (cs := #[.int .i64 a0_0, .slice A0_1 l0_1.length c0_1]) (t := 43) ?_; intro gb125 hg w6 hbox hb; have n0 := aM_ (sT_ HB.out hb); have n1 := aM_ (hbox); have n2 := aM_ (sZ_ hg HB.out); have n3 := aM_ (sZ_ hg HB.out); clear HB; have HB := n0; have BK125 := n1; have GW125 := n2; have GE125 := n3; clear n0 n1 n2 n3; clear hb hbox hg) | ((with_reducible refine gate_dst (N := 3) rfl ?_); refine bX_ 3 (cs := #[.int .i64 a1_0, .slice A1_1 l1_1.length c1_1]) (t := 43) ?_; intro gb126 hg w7 hbox hb; have n0 := aM_ (nB_ BK125.out hb); have n1 := aM_ (sT_ HB.out hb); have n2 := aM_ (hbox); have n3 := aM_ (sZ_ hg HB.out); have n4 := aM_ (sZ_ hg HB.out); have n5 := aM_ (nL_ hg BK125.out); have n6 := aM_ (nG_ hg BK125.out); clear BK125; clear HB; have BK125 := n0; have HB := n1; have BK126 := n2; have GW126 := n3; have GE126 := n4; have NB125_126 := n5; have NB126_125 := n6; clear n0 n1 n2 n3 n4 n5 n6; clear hb hbox hg; have hnb8 := NB125_126.out; have hnc8 := NB126_125.out; obtain ⟨hcz9_0, hcz9_1, hfz9_0, hfz9_1⟩ := bR2_ BK125.out; obtain ⟨hcz10_0, hcz10_1, hfz10_0, hfz10_1⟩ := bR2_ BK126.out) | ((with_reducible refine gate_callee (f := 33) rfl ?_); refine gL_ (some 14) Try.func33 #[.slice A0_1 l0_1.length c0_1, .slice A1_1 l1_1.length c1_1] ?_; (with_reducible refine (laws_eqIntS.calls k _ _ l0_1 _ _ l1_1 true _ ?side1 ?side2 ?side3 ?side4 A4.out).mono ?_); (case side1 => exact cS_ (Kd.C_below HR0_1.out HB.out)); (case side2 => exact HC0_1.out); (case side3 => exact cS_ (Kd.C_below HR1_1.out HB.out)); (case side4 => exact HC1_1.out); rintro e w' ⟨rfl, ⟨nd, rfl⟩⟩; refine ⟨_, rfl, ?_⟩))
   go_ret
   exact fI_ HB.out
  ·replace c5 := Bool.eq_false_iff.mpr c5
   subst c5
   have H1 : (some false) = some r := by rw [if_neg (show ¬ (false = true) by decide)] at H; exact H
   clear H
   have H := H1
   clear H1
   obtain rfl := Option.some.inj H
   go_enter Try.func112, Try.ntmps112
   go_wp2_with (first | ((with_reducible refine gate_dst (N := 2) rfl ?_); refine bX_ 2 (cs := #[.int .i64 a0_0, .slice A0_1 l0_1.length c0_1]) (t := 43) ?_; intro gb125 hg w11 hbox hb; have n0 := aM_ (sT_ HB.out hb); have n1 := aM_ (hbox); have n2 := aM_ (sZ_ hg HB.out); have n3 := aM_ (sZ_ hg HB.out); clear HB; have HB := n0; have BK125 := n1; have GW125 := n2; have GE125 := n3; clear n0 n1 n2 n3; clear hb hbox hg) | ((with_reducible refine gate_dst (N := 3) rfl ?_); refine bX_ 3 (cs := #[.int .i64 a1_0, .slice A1_1 l1_1.length c1_1]) (t := 43) ?_; intro gb126 hg w12 hbox hb; have n0 := aM_ (nB_ BK125.out hb); have n1 := aM_ (sT_ HB.out hb); have n2 := aM_ (hbox); have n3 := aM_ (sZ_ hg HB.out); have n4 := aM_ (sZ_ hg HB.out); have n5 := aM_ (nL_ hg BK125.out); have n6 := aM_ (nG_ hg BK125.out); clear BK125; clear HB; have BK125 := n0; have HB := n1; have BK126 := n2; have GW126 := n3; have GE126 := n4; have NB125_126 := n5; have NB126_125 := n6; clear n0 n1 n2 n3 n4 n5 n6; clear hb hbox hg; have hnb13 := NB125_126.out; have hnc13 := NB126_125.out; obtain ⟨hcz14_0, hcz14_1, hfz14_0, hfz14_1⟩ := bR2_ BK125.out; obtain ⟨hcz15_0, hcz15_1, hfz15_0, hfz15_1⟩ := bR2_ BK126.out) | ((with_reducible refine gate_callee (f := 33) rfl ?_); refine gL_ (some 14) Try.func33 #[.slice A0_1 l0_1.length c0_1, .slice A1_1 l1_1.length c1_1] ?_; (with_reducible refine (laws_eqIntS.calls k _ _ l0_1 _ _ l1_1 false _ ?side1 ?side2 ?side3 ?side4 A4.out).mono ?_); (case side1 => exact cS_ (Kd.C_below HR0_1.out HB.out)); (case side2 => exact HC0_1.out); (case side3 => exact cS_ (Kd.C_below HR1_1.out HB.out)); (case side4 => exact HC1_1.out); rintro e w' ⟨rfl, ⟨nd, rfl⟩⟩; refine ⟨_, rfl, ?_⟩))
   go_ret
   exact fI_ HB.out
 ·rw [if_neg c3] at H
  have c3b0 : (a0_0 == a1_0) = false := beq_eq_false_iff_ne.mpr c3
  have c3b1 : (a0_0 != a1_0) = true := bne_iff_ne.mpr c3
  obtain rfl := Option.some.inj H
  go_enter Try.func112, Try.ntmps112
  go_wp2_with (first | ((with_reducible refine gate_dst (N := 2) rfl ?_); refine bX_ 2 (cs := #[.int .i64 a0_0, .slice A0_1 l0_1.length c0_1]) (t := 43) ?_; intro gb125 hg w16 hbox hb; have n0 := aM_ (sT_ HB.out hb); have n1 := aM_ (hbox); have n2 := aM_ (sZ_ hg HB.out); have n3 := aM_ (sZ_ hg HB.out); clear HB; have HB := n0; have BK125 := n1; have GW125 := n2; have GE125 := n3; clear n0 n1 n2 n3; clear hb hbox hg) | ((with_reducible refine gate_dst (N := 3) rfl ?_); refine bX_ 3 (cs := #[.int .i64 a1_0, .slice A1_1 l1_1.length c1_1]) (t := 43) ?_; intro gb126 hg w17 hbox hb; have n0 := aM_ (nB_ BK125.out hb); have n1 := aM_ (sT_ HB.out hb); have n2 := aM_ (hbox); have n3 := aM_ (sZ_ hg HB.out); have n4 := aM_ (sZ_ hg HB.out); have n5 := aM_ (nL_ hg BK125.out); have n6 := aM_ (nG_ hg BK125.out); clear BK125; clear HB; have BK125 := n0; have HB := n1; have BK126 := n2; have GW126 := n3; have GE126 := n4; have NB125_126 := n5; have NB126_125 := n6; clear n0 n1 n2 n3 n4 n5 n6; clear hb hbox hg; have hnb18 := NB125_126.out; have hnc18 := NB126_125.out; obtain ⟨hcz19_0, hcz19_1, hfz19_0, hfz19_1⟩ := bR2_ BK125.out; obtain ⟨hcz20_0, hcz20_1, hfz20_0, hfz20_1⟩ := bR2_ BK126.out))
  go_ret
  exact fI_ HB.out
end Go.Proofs.Ythbcnakmnbilhaa.PFnExactMemoryNew
