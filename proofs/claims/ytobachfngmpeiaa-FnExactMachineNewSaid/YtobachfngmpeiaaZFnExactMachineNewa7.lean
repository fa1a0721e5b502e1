/- A part of the proof that the law FnExactMachineNew holds for every input. -/
import Derived.Test.YtobachfngmpeiaaZFnExactMachineNewa5
import Derived.Test.YtobachfngmpeiaaZFnExactMachineNews
namespace Go.Proofs.Ytobachfngmpeiaa.PFnExactMachineNew
open Go.RowKit Go.Proofs.YtobachfngmpeiaaW.PrintWords Go.Proofs.YtobachfngmpeiaaW.PrintLast Go.Proofs.YtobachfngmpeiaaW.PrintMore Go.Proofs.Ytobachfngmpeiaa.SepMark
attribute [local go_sem] max2_int min2_int max_two min_two max_three min_three max_four min_four   -- for this text's walks alone
set_option linter.unusedVariables false
set_option linter.unusedSimpArgs false
def impl_MemoryNew.l0 : Nat → Int → List (List (S170)) → Option ((List (List (S170))))
  | 0, _, _ => none
  | k + 1, x3, x203000 => if x3 < 24 then (if 24 ≤ 35184372088832 then (if x203000.length < 5864062014805 then (impl_MemoryNew.l0 k (wrap64 (x3 + 1)) (x203000 ++ [(([(⟨0, (List.replicate 24 0)⟩ : S170)] : List (S170)))])) else (none)) else (none)) else (some x203000)
def impl_MemoryNew.f (k : Nat)  : Option ((List (List (S170)))) := impl_MemoryNew.l0 k 0 ([] : List (List (S170)))
def impl_MemoryNew.T4 : Bool × List (List Nat × List Nat) := (true, [([], []), ([0], [0]), ([], []), ([2], [2]), ([3], [3]), ([4], [4]), ([1, 5], [1, 5]), ([0, 1, 2, 3, 4, 5, 6], []), ([7, 6, 6, 0, 1, 2, 3, 4, 5, 6], [6, 7])])
def impl_MemoryNew.B4 : List Nat := [0, 1, 0, 4, 12, 28, 63, 127, 255]
theorem impl_MemoryNew.tab4 : rtab .any (opsOf Try.f80 4) = impl_MemoryNew.T4 := by kernel_rfl
theorem impl_MemoryNew.bits4 : waitsOk impl_MemoryNew.T4.2 impl_MemoryNew.B4 = true := by kernel_rfl
set_option maxHeartbeats 8000000 in
set_option maxRecDepth 100000 in
theorem impl_MemoryNew.calls (k : Nat)  (r : List (List (S170))) (w : World) (h : impl_MemoryNew.f k  = some r) :
  Calls Try.prog 80 #[] w fun e w' => ∃ v0_ : Value, e = .returned (.agg #[v0_]) ∧ Kd.S (sslice 170 k170) 171 w' w.heap.size (fun k_ => (w.heap.size ≤ k_)) v0_ r ∧ Below w.heap.size w w' := by
 have hu57 := Try.underlying57
 have hu170 := Try.underlying170
 have HB := aM_ (Below.refl w.heap.size w)
 have H : (impl_MemoryNew.l0 k 0 ([] : List (List (S170)))) = some r := h
 clear h
 have H' := aM_ H
 clear H
 go_enter Try.func80, Try.ntmps80
 go_wp2_with (first | ((with_reducible refine gate_dst (N := 0) rfl ?_); refine bX_ 0 (cs := #[.slice none 0 0]) (t := 57) ?_; intro gb201 hg w1 hbox hb; have BK201 := aM_ (hbox); have GE201 := aM_ (sZ_ hg HB.out); replace HB := aM_ (sT_ HB.out hb); clear hb hbox hg) | ((with_reducible refine gate_dst (N := 1) rfl ?_); refine bX_ 1 (cs := #[.slice none 0 0]) (t := 57) ?_; intro gb202 hg w2 hbox hb; have BK202 := aM_ (hbox); have GE202 := aM_ (sZ_ hg HB.out); have NB201_202 := aM_ (nL_ hg BK201.out); have NB202_201 := aM_ (nG_ hg BK201.out); replace BK201 := aM_ (nB_ BK201.out hb); replace HB := aM_ (sT_ HB.out hb); clear hb hbox hg; have hnb3 := NB202_201.out; have hnc3 := NB201_202.out; have hcz4_0 : w2.cell? ⟨gb202, 0, none⟩ = some (.slice none 0 0) := (blk_cell BK202.out 0).trans rfl; have hfz4_0 := blk_frozen BK202.out 0))
 go_loopg [3] k (fun kq v3 w' => ∃ (x3_1 : Int) (x2030_1 : List (List (S170))) (u2030 : Value), v3 = .int .i64 x3_1 ∧ Aside0 (impl_MemoryNew.l0 kq x3_1 x2030_1 = some r) ∧ Aside0 (kq ≤ k) ∧ Aside0 (Kd.S (sslice 170 k170) 171 w' w.heap.size (fun k_ => (w.heap.size ≤ k_) ∧ k_ ≠ gb201 ∧ k_ ≠ gb202) u2030 x2030_1) ∧ Aside0 (w'.heap[gb201]? = some (.cells #[(.slice none 0 0)] 57 (0, 0))) ∧ Aside0 (w'.heap[gb202]? = some (.cells #[u2030] 57 (0, 0))) ∧ Aside0 (Below w.heap.size w w'))
 case atStart => exact ⟨(0), (([] : List (List (S170)))), (.slice none 0 0), (by first | rfl | (simp; done) | (simp [*]; done)), H', ⟨Nat.le_refl _⟩, ⟨by first | exact Kd.R_nil _ _ _ _ _ | exact Kd.S_nil _ _ _ _ _ | exact Kd.V_nil _ _ _ _ _ | exact Kd.Q_nil _ _ _ _ _ | exact Kd.S_nil _ _ _ _ _⟩, ⟨rWf_ BK201.out⟩, ⟨by (with_reducible repeat (first | refine bN_ ?_ _ | refine bD_ ?_ | refine bA_ ?_ _)); refine blk_put (cs := #[.slice none 0 0]) ?_ 0 _ rfl; (with_reducible repeat (first | refine bN_ ?_ _ | refine bD_ ?_ | refine bA_ ?_ _)); exact BK202.out⟩, ⟨gW_ HB.out⟩⟩
 case round =>
  clear H'
  try clear p2
  try clear c3
  try clear hcz4_0 hfz4_0
  obtain ⟨x3_1, x2030_1, u2030, rfl, HA, HK1, HO_203000, BK201, BK202, HB⟩ := hrel
  cases gk with
  | zero => exact absurd HA.out (by simp [impl_MemoryNew.l0])
  | succ k1 =>
   have H := HA.out
   clear HA
   simp only [impl_MemoryNew.l0] at H
   by_cases c5 : x3_1 < 24
   ·rw [if_pos c5] at H
    have c5b0 : decide (x3_1 < 24) = true := decide_eq_true c5
    clear c5
    by_cases c6 : 24 ≤ 35184372088832
    ·rw [if_pos c6] at H
     have c6b0 := eq_true c6
     have c6b1 : decide (24 ≤ 35184372088832) = true := decide_eq_true c6
     clear c6
     obtain ⟨y203, hy203⟩ : ∃ y_ : List Int, y_ = (List.replicate 24 0) := ⟨_, rfl⟩
     replace H : (if x2030_1.length < 5864062014805 then (impl_MemoryNew.l0 k1 (wrap64 (x3_1 + 1)) (x2030_1 ++ [(([(⟨0, y203⟩ : S170)] : List (S170)))])) else (none)) = some r := by first | (rw [hy203]; with_reducible exact H) | (have H2_ := (Option.bind_some _ _).symm.trans H; rw [hy203]; with_reducible exact H2_) | (have H2_ := (Option.bind_some _ _).symm.trans H; with_reducible exact H2_) | with_reducible exact H | (rw [hy203]; exact H) | exact H
     have Ny203 := aM_ hy203
     clear hy203
     obtain ⟨y206, hy206⟩ : ∃ y_ : List (S170), y_ = (([(⟨0, y203⟩ : S170)] : List (S170))) := ⟨_, rfl⟩
     replace H : (if x2030_1.length < 5864062014805 then (impl_MemoryNew.l0 k1 (wrap64 (x3_1 + 1)) (x2030_1 ++ [y206])) else (none)) = some r := by first | (rw [hy206]; with_reducible exact H) | (have H2_ := (Option.bind_some _ _).symm.trans H; rw [hy206]; with_reducible exact H2_) | (have H2_ := (Option.bind_some _ _).symm.trans H; with_reducible exact H2_) | with_reducible exact H | (rw [hy206]; exact H) | exact H
     have Ny206 := aM_ hy206
     clear hy206
     by_cases c7 : x2030_1.length < 5864062014805
     ·rw [if_pos c7] at H
      have LMc7 := aM_ c7
      clear c7
      obtain ⟨y209, hy209⟩ : ∃ y_ : List (List (S170)), y_ = (x2030_1 ++ [y206]) := ⟨_, rfl⟩
      replace H : (impl_MemoryNew.l0 k1 (wrap64 (x3_1 + 1)) y209) = some r := by first | (rw [hy209]; with_reducible exact H) | (have H2_ := (Option.bind_some _ _).symm.trans H; rw [hy209]; with_reducible exact H2_) | (have H2_ := (Option.bind_some _ _).symm.trans H; with_reducible exact H2_) | with_reducible exact H | (rw [hy209]; exact H) | exact H
      have Ny209 := aM_ hy209
      clear hy209
      have H' := aM_ H
      clear H
      try go_wp2
      replace HO_203000 := aM_ (Kd.S_drew HO_203000.out)
      replace BK201 := aM_ (blk_drew BK201.out)
      replace BK202 := aM_ (blk_drew BK202.out)
      replace HB := aM_ (below_drew1 HB.out)
      refine start_ (n := 9) (S := fun w' => w'.cell? ⟨gb202, 0, none⟩ = some (u2030)) (ds := [8]) (mk_ 9 0) (by kernel_rfl) rfl rfl ((blk_cell BK202.out 0).trans rfl) (fun hHeld => ?_); refine with_tabW impl_MemoryNew.tab4 impl_MemoryNew.bits4 (fun HT_ HW_ => ?_)
      generalize wr.drew = w8 at HO_203000 BK201 BK202 HB hHeld ⊢
      have HF := aM_ (show ∀ k, w8.heap.size ≤ k → (w.heap.size ≤ k ∧ k ≠ gb201 ∧ k ≠ gb202) ∧ some k ≠ (u2030 : Value).ownBlock from fun k hk => ⟨⟨Nat.le_trans (below_size HB.out) hk, fun e => by have := blk_lt BK201.out; omega, fun e => by have := blk_lt BK202.out; omega⟩, fun e => by have := Kd.S_lt HO_203000.out k e.symm; omega⟩)
      replace HO_203000 := aM_ (Kd.S_mono (ok' := fun k_ => ((w.heap.size ≤ k_) ∧ k_ ≠ gb201 ∧ k_ ≠ gb202) ∧ k_ < w8.heap.size) (Kd.S_bound HO_203000.out) (fun k hk => ⟨hk.1, hk.2.2.1⟩))
      refine pU_ 0 5 (mk_ 9 1) ?_
      refine take_ (i := 1) (N := some 6) (v := ?_) (a' := ?_) #[true, true, false, false, false, false, false, false, false] rfl rfl (take_ofW HT_.out HW_.out (by kernel_rfl)) (fun _ _ _ h => h) (Or.inl ⟨by rfl, ?_⟩) hHeld ?_ ?_
      rotate_left
      ·intro w' s0
       go_simp
       with_reducible rfl
      rotate_left
      ·simp only [pt_, pn_, sI_, s0_, s1_, i64_w, i32_w]
       rfl
      refine oN_ 2 7 (mk_ 9 7) (fun K hK => ?_)
      refine Kd.R_make_step (Kd.int .i64) _ 3 (by rfl) (N := 7) rfl 31 _ _ rfl 24 rfl rfl Try.underlying31 (.int .i64 0) 8 info3 rfl (by decide) (by omega) 0 (ok := fun _ => True) (okp := fun _ => True) rfl (fun _ hk => hk) trivial (by omega) (by omega) (Below.refl _ _) (Nat.le_refl _) ?_
      intro v204 w9 ho10 hb hg_ hnew_
      have HS9 := aM_ hb.size
      clear hg_ hnew_
      (first | rw [← Ny203.out] at ho10 | (simp only [Int.reduceToNat] at ho10; rw [← Ny203.out] at ho10))
      have HO205 := aM_ (Kd.R_lower (Kd.R_newM (M := fun k_ => (w8.heap.size ≤ k_)) ho10 (Nat.le_refl _) (fun k_ h_ => h_)) (below_size (gB_ HB.out)))
      replace HO_203000 := aM_ (Kd.S_elder' (by (with_reducible repeat (first | apply Kd.S_alloc | apply Kd.S_drewN | apply Kd.S_drew)); exact HO_203000.out) (Kd.R_base ho10) hb)
      replace BK201 := aM_ (nB_ BK201.out hb)
      replace BK202 := aM_ (nB_ BK202.out hb)
      replace HB := aM_ (sT_ HB.out hb)
      clear hb ho10
      obtain ⟨Ao11, co11, eo11⟩ := Kd.R_slice HO205.out
      (first | subst eo11 | (injection eo11 with f1_ f2_ f3_; have f4_ := f1_.symm; have f5_ := f3_.symm; clear f1_ f2_ f3_; subst f4_; subst f5_))
      refine kO_ hK (some 7) ((blk_cell BK202.out 0).trans rfl) (fun hHeld => ?_)
      clear hK K
      refine pU_ 3 8 (mk_ 9 15) ?_
      refine oN_ 4 9 (mk_ 9 31) (fun K hK => ?_)
      refine Kd.R_lit_step k170 w.heap.size 170 ?hg (N := 9) ?hd (xs := ([(⟨0, y203⟩ : S170)] : List (S170))) (inner := [.int .i64 0, .slice Ao11 y203.length co11]) (ok := (fun k_ => (w8.heap.size ≤ k_))) (okp := (fun k_ => (w8.heap.size ≤ k_))) ?hr ?hp (fun _ hk => hk) (HS9.out) (Below.refl _ _) (below_size (gB_ HB.out)) (by simp) ?_; (case hd => rfl); (case hg => rfl); (case hr => first | (go_simp; done) | (go_simp; rfl)); (case hp => exact (Reps.c2 (show k170.M _ _ _ (⟨0, y203⟩ : S170) [.int .i64 0, .slice Ao11 y203.length co11] from k170_mkM _ _ _ (⟨0, y203⟩ : S170) (Kd.R_mono HO205.out (fun _ hk => hk.1))) (Reps.none _ _)))
      intro v207 w12 ho13 hb0_ hg_ hnew_
      have hb : Below w9.heap.size w9 w12 := (Below.refl w9.heap.size w9).grown hg_ (Nat.le_refl _) (by simp)
      replace ho13 := S_one ho13
      have hbs_ : ∀ k, v207.ownBlock = some k → w9.heap.size ≤ k := fun k hk => by obtain ⟨b, h1, h2⟩ := hnew_; rw [h1] at hk; cases hk; exact h2
      clear hb0_ hg_ hnew_
      (first | rw [← Ny206.out] at ho13 | (simp only [Int.reduceToNat] at ho13; rw [← Ny206.out] at ho13))
      have HO208 := aM_ (Kd.S_lower ho13 (Nat.le_refl _))
      replace HO_203000 := aM_ (Kd.S_elder' (by (with_reducible repeat (first | apply Kd.S_alloc | apply Kd.S_drewN | apply Kd.S_drew)); exact HO_203000.out) hbs_ hb)
      replace BK201 := aM_ (nB_ BK201.out hb)
      replace BK202 := aM_ (nB_ BK202.out hb)
      replace HB := aM_ (sT_ HB.out hb)
      clear HO205
      clear hb ho13
      obtain ⟨Ao15, co15, eo15⟩ := Kd.S_slice HO208.out
      (first | subst eo15 | (injection eo15 with f1_ f2_ f3_; have f4_ := f1_.symm; have f5_ := f3_.symm; clear f1_ f2_ f3_; subst f4_; subst f5_))
      refine kO_ hK (some 9) ((blk_cell BK202.out 0).trans rfl) (fun hHeld => ?_)
      clear hK K
      refine oN_ 5 10 (mk_ 9 63) (fun K hK => ?_)
      refine value_ (w1 := ?_) (v := ?_) (by rfl) rfl ?_ ?_
      rotate_left 2
      ·go_simp
       constructor
       ·rfl
       ·rfl
      refine kO_ hK (some 10) ((blk_cell (blk_alloc BK202.out _) 0).trans rfl) (fun hHeld => ?_)
      clear hK K
      refine oN_ 6 11 (mk_ 9 127) (fun K hK => ?_)
      refine Kd.S_append_step (sslice 170 k170) (w0 := w) w.heap.size (by rfl) (.tmp 6) (.tmp 10) 55 171 (.slice none 0 0) 24 rfl Try.underlying55 info171 rfl (by decide) (by omega) u2030 x2030_1 y206 [.slice Ao15 y206.length co15] (fun k_ => (w.heap.size ≤ k_) ∧ k_ ≠ gb201 ∧ k_ ≠ gb202) (fun k_ => (w8.heap.size ≤ k_)) rfl rfl ?aP HF.out ?aF ?aO ?aB ?aS ?aL ?_
      (case aP => exact ⟨_, rfl, HO208.out⟩)
      (case aB => exact (gB_ HB.out))
      (case aF => exact (fun k_ hk => ⟨(Nat.le_trans (below_size (gB_ HB.out)) hk), Kd.freshB (g := gb201) (o := .cells #[.slice none 0 0] 57 (0, 0)) (by (with_reducible repeat (first | refine bN_ ?_ _ | refine bD_ ?_ | refine bA_ ?_ _)); exact BK201.out) k_ hk, Kd.freshB (g := gb202) (o := .cells #[u2030] 57 (0, 0)) (by (with_reducible repeat (first | refine bN_ ?_ _ | refine bD_ ?_ | refine bA_ ?_ _)); exact BK202.out) k_ hk⟩))
      (case aO => exact Kd.S_mono HO_203000.out (fun _ hk => ⟨hk.1.1.1, fun h => absurd h (Nat.not_le.2 hk.1.1.2)⟩))
      (case aS => exact (below_size (gB_ HB.out)))
      (case aL => have := LMc7.out; omega)
      intro v210 w14 ho hb hg hat
      rw [← Ny209.out] at ho
      have HO211 := aM_ (ho)
      replace BK201 := aM_ (blk_grown (g := gb201) (o := .cells #[.slice none 0 0] 57 (0, 0)) (by (with_reducible repeat (first | refine bN_ ?_ _ | refine bD_ ?_ | refine bA_ ?_ _)); exact BK201.out) hg (Kd.S_ne HO_203000.out BK201.out (by decide)))
      replace BK202 := aM_ (blk_grown (g := gb202) (o := .cells #[u2030] 57 (0, 0)) (by (with_reducible repeat (first | refine bN_ ?_ _ | refine bD_ ?_ | refine bA_ ?_ _)); exact BK202.out) hg (Kd.S_ne HO_203000.out BK202.out (by decide)))
      replace HB := aM_ (hb)
      clear HO208 HO_203000
      clear ho hb hg hat
      obtain ⟨Ao16, co16, eo16⟩ := Kd.S_slice HO211.out
      (first | subst eo16 | (injection eo16 with f1_ f2_ f3_; have f4_ := f1_.symm; have f5_ := f3_.symm; clear f1_ f2_ f3_; subst f4_; subst f5_))
      refine kO_ hK (some 11) ((blk_cell BK202.out 0).trans rfl) (fun hHeld => ?_)
      clear hK K
      refine pU_ 7 12 (mk_ 9 255) ?_
      refine last_ (i := 8) (N := none) (mk_ 9 511) rfl rfl (one_of HT_.out (by kernel_rfl)) (by decide) (fun K hK => ?_)
      have hs17 : w14.cell? ⟨gb202, 0, none⟩ = some (u2030) := (blk_cell BK202.out 0).trans rfl
      have hfs17 := blk_frozen BK202.out 0
      have hns17_0 := NB201_202.out
      have hms17_0 := NB202_201.out
      refine skip_ (w1 := ?_) (by rfl) rfl ?_ ?_
      rotate_left
      ·go_simp
       rfl
      refine hK.out _ _ ?_
      clear hK K
      refine done_ (done_of HT_.out (by kernel_rfl)) ?_
      try go_wp2
      go_roundg k1
      case measure => have := HK1.out; omega
      case rel => exact ⟨(wrap64 (x3_1 + 1)), (y209), (.slice Ao16 y209.length co16), (by first | rfl | (simp; done) | (simp [*]; done)), H', ⟨by have := HK1.out; omega⟩, ⟨by (with_reducible repeat (first | apply Kd.S_alloc | apply Kd.S_drewN | apply Kd.S_drew)); exact Kd.S_mono (Kd.S_far (p := ⟨gb202, 0, none⟩) (Kd.S_mono HO211.out (fun k_ hk => (⟨hk, hk.2.2⟩ : _ ∧ k_ ≠ gb202))) (fun _ hk => hk.2) (.slice Ao16 y209.length co16)) (fun _ hk => ⟨hk.1.1, ⟨hk.1.2.1, hk.1.2.2⟩⟩)⟩, ⟨rWf_ BK201.out⟩, ⟨by (with_reducible repeat (first | refine bN_ ?_ _ | refine bD_ ?_ | refine bA_ ?_ _)); refine blk_put (cs := #[u2030]) ?_ 0 _ rfl; (with_reducible repeat (first | refine bN_ ?_ _ | refine bD_ ?_ | refine bA_ ?_ _)); exact BK202.out⟩, ⟨gW_ HB.out⟩⟩
     ·rw [if_neg c7] at H
      exact absurd H (by simp)
    ·rw [if_neg c6] at H
     exact absurd H (by simp)
   ·rw [if_neg c5] at H
    have c5b0 : decide (x3_1 < 24) = false := decide_eq_false c5
    clear c5
    obtain rfl := Option.some.inj H
    have hnb18 := NB202_201.out
    have hnc18 := NB201_202.out
    have hcz19_0 : wr.cell? ⟨gb202, 0, none⟩ = some (u2030) := (blk_cell BK202.out 0).trans rfl
    have hfz19_0 := blk_frozen BK202.out 0
    obtain ⟨Ao20, co20, eo20⟩ := Kd.S_slice HO_203000.out
    subst eo20
    have hcz21_0 : wr.cell? ⟨gb201, 0, none⟩ = some (.slice none 0 0) := (blk_cell BK201.out 0).trans rfl
    have hfz21_0 := blk_frozen BK201.out 0
    go_wp2
    refine bodyPost_ret (results_cell_row rfl _ _ gb201 57 #[.slice Ao20 x2030_1.length co20] (0, 0) _ rfl (by (with_reducible repeat (first | refine bN_ ?_ _ | refine bD_ ?_ | refine bA_ ?_ _)); refine blk_put (cs := #[.slice none 0 0]) ?_ 0 _ rfl; exact rW_ BK201.out) Try.underlying57 rfl (by kernel_rfl)) rfl ?_
    exact ⟨_, fR_, by (with_reducible repeat (first | apply Kd.S_alloc | apply Kd.S_drewN | apply Kd.S_drew)); exact Kd.S_mono (Kd.S_far (p := ⟨gb201, 0, none⟩) (Kd.S_mono HO_203000.out (fun k_ hk => (⟨hk, hk.2.1⟩ : _ ∧ k_ ≠ gb201))) (fun _ hk => hk.2) (.slice Ao20 x2030_1.length co20)) (fun _ hk => hk.1.1), gB_ HB.out⟩
def impl_within.f (a0 : Int) (a1 : Int) (a2 : Int) : Option (Bool) := if a0 ≥ a1 then (some (decide (a0 ≤ a2))) else (some false)
set_option maxHeartbeats 8000000 in
set_option maxRecDepth 100000 in
theorem impl_within.calls (a0 : Int) (a1 : Int) (a2 : Int) (r : Bool) (w : World) (h : impl_within.f a0 a1 a2 = some r) :
  Calls Try.prog 106 #[.int .i64 a0, .int .i64 a1, .int .i64 a2] w fun e w' => e = .returned (.bool r) ∧ Drawn0 w w' := by
 have H : (if a0 ≥ a1 then (some (decide (a0 ≤ a2))) else (some false)) = some r := h
 clear h
 by_cases c4 : a0 ≥ a1
 ·rw [if_pos c4] at H
  have c4b0 : decide (a1 ≤ a0) = true := decide_eq_true c4
  clear c4
  obtain rfl := Option.some.inj H
  go_enter Try.func106, Try.ntmps106
  go_wp2
  go_ret
  exact ⟨by first | rfl | (simp; done) | (simp [*]; done), by repeat (first | exact Drawn0.refl _ | apply Drawn0.step)⟩
 ·rw [if_neg c4] at H
  have c4b0 : decide (a1 ≤ a0) = false := decide_eq_false c4
  clear c4
  obtain rfl := Option.some.inj H
  go_enter Try.func106, Try.ntmps106
  go_wp2
  go_ret
  exact ⟨by first | rfl | (simp; done) | (simp [*]; done), by repeat (first | exact Drawn0.refl _ | apply Drawn0.step)⟩
def impl_ViewOk.l0 : Nat → List Int → Int → Int → List (List (S170)) → Option (Bool)
  | 0, _, _, _, _ => none
  | k + 1, x13, x14, x15, x213000 => if x15 < x14 then (if 0 ≤ x15 then (if x15 < (x13.length : Int) then (if x15 < (x213000.length : Int) then ((impl_within.f (rd x13 x15) 0 (wrap64 (((rd_L7 x213000 x15).length : Int) - 1))).bind fun t215 => (if t215 = true then (impl_ViewOk.l0 k x13 x14 (wrap64 (x15 + 1)) x213000) else (some false))) else (none)) else (none)) else (none)) else (some true)
def impl_ViewOk.f (k : Nat) (l0_0 : List (List (S170))) (l1 : List Int) : Option (Bool) := if (l1.length : Int) = (l0_0.length : Int) then (impl_ViewOk.l0 k l1 (l1.length : Int) 0 l0_0) else (some false)
set_option maxHeartbeats 8000000 in
set_option maxRecDepth 100000 in
theorem impl_ViewOk.calls (k : Nat) (A0_0 : Option Addr) (c0_0 : Nat) (l0_0 : List (List (S170))) (A1 : Option Addr) (c1 : Nat) (l1 : List Int) (r : Bool) (w : World) (hr0_0 : Kd.C (Kd.slice 170 k170) w A0_0 l0_0.length l0_0) (hc0_0 : l0_0.length ≤ c0_0) (hr1 : Kd.C (Kd.int .i64) w A1 l1.length l1) (hc1 : l1.length ≤ c1) (h : impl_ViewOk.f k l0_0 l1 = some r) :
  Calls Try.prog 137 #[.agg #[.slice A0_0 l0_0.length c0_0], .slice A1 l1.length c1] w fun e w' => e = .returned (.bool r) ∧ Below w.heap.size w w' := by
 have hu57 := Try.underlying57
 have HR0_0 := aM_ hr0_0
 have HC0_0 := aM_ hc0_0
 clear hr0_0 hc0_0
 have HR1 := aM_ hr1
 have HC1 := aM_ hc1
 clear hr1 hc1
 have HB := aM_ (Below.refl w.heap.size w)
 have H : (if (l1.length : Int) = (l0_0.length : Int) then (impl_ViewOk.l0 k l1 (l1.length : Int) 0 l0_0) else (some false)) = some r := h
 clear h
 by_cases c3 : (l1.length : Int) = (l0_0.length : Int)
 ·rw [if_pos c3] at H
  have c3b0 : ((l1.length : Int) == (l0_0.length : Int)) = true := beq_iff_eq.mpr c3
  have c3b1 : ((l1.length : Int) != (l0_0.length : Int)) = false := bne_eq_false_iff_eq.mpr c3
  have c3b2 : (l1.length == l0_0.length) = true := by first | simpa using c3 | (simp at c3 ⊢; omega)
  clear c3
  have H' := aM_ H
  clear H
  go_enter Try.func137, Try.ntmps137
  go_wp2_with (first | ((with_reducible refine gate_dst (N := 2) rfl ?_); refine bX_ 2 (cs := #[.slice A0_0 l0_0.length c0_0]) (t := 57) ?_; intro gb212 hg w4 hbox hb; have BK212 := aM_ (hbox); have GE212 := aM_ (sZ_ hg HB.out); replace HB := aM_ (sT_ HB.out hb); clear hb hbox hg; have hcz5_0 : w4.cell? ⟨gb212, 0, none⟩ = some (.slice A0_0 l0_0.length c0_0) := (blk_cell BK212.out 0).trans rfl; have hfz5_0 := blk_frozen BK212.out 0))
  go_loopg [15] k (fun kq v15 w' => ∃ (x15_1 : Int), v15 = .int .i64 x15_1 ∧ Aside0 (impl_ViewOk.l0 kq l1 (l1.length : Int) x15_1 l0_0 = some r) ∧ Aside0 (kq ≤ k) ∧ Aside0 (w'.heap[gb212]? = some (.cells #[(.slice A0_0 l0_0.length c0_0)] 57 (0, 0))) ∧ Aside0 (Below w.heap.size w w'))
  case atStart => exact ⟨(0), (by first | rfl | (simp; done) | (simp [*]; done)), H', ⟨Nat.le_refl _⟩, ⟨rW_ BK212.out⟩, ⟨gW_ HB.out⟩⟩
  case round =>
   clear H'
   try clear c1
   try clear p2
   try clear c3
   try clear c3b0
   try clear c3b1
   try clear c3b2
   try clear hcz5_0 hfz5_0
   obtain ⟨x15_1, rfl, HA, HK1, BK212, HB⟩ := hrel
   cases gk with
   | zero => exact absurd HA.out (by simp [impl_ViewOk.l0])
   | succ k1 =>
    have H := HA.out
    clear HA
    simp only [impl_ViewOk.l0] at H
    by_cases c6 : x15_1 < (l1.length : Int)
    ·rw [if_pos c6] at H
     have c6b0 : decide (x15_1 < (l1.length : Int)) = true := decide_eq_true c6
     clear c6
     by_cases c7 : 0 ≤ x15_1
     ·rw [if_pos c7] at H
      have c7b0 : decide (0 ≤ x15_1) = true := decide_eq_true c7
      clear c7
      by_cases c8 : x15_1 < (l1.length : Int)
      ·rw [if_pos c8] at H
       have c8b0 : decide (x15_1 < (l1.length : Int)) = true := decide_eq_true c8
       clear c8
       by_cases c9 : x15_1 < (l0_0.length : Int)
       ·rw [if_pos c9] at H
        have c9b0 : decide (x15_1 < (l0_0.length : Int)) = true := decide_eq_true c9
        clear c9
        replace H := Option.bind_eq_some_iff.mp H
        obtain ⟨t215, A100, H⟩ := H
        replace H : (if t215 = true then (impl_ViewOk.l0 k1 l1 (l1.length : Int) (wrap64 (x15_1 + 1)) l0_0) else (some false)) = some r := H
        have A10 := aM_ A100
        clear A100
        by_cases c11 : t215 = true
        ·subst c11
         have H1 : (impl_ViewOk.l0 k1 l1 (l1.length : Int) (wrap64 (x15_1 + 1)) l0_0) = some r := by rw [if_pos rfl] at H; exact H
         clear H
         have H := H1
         clear H1
         have H' := aM_ H
         clear H
         have p213 : 0 ≤ (x15_1 : Int) := of_decide_eq_true (by first | (with_reducible assumption) | assumption)
         have q213 : x15_1 < (l1.length : Int) := of_decide_eq_true (by first | (with_reducible assumption) | assumption)
         obtain ⟨ad213, e213, hx213_0⟩ := Kd.at_int HR1.out x15_1 p213 q213
         cases e213
         replace hx213_0 := cB_ HB.out hx213_0
         replace p213 := eq_true p213
         replace q213 := eq_true q213
         have hcz12_0 : wr.cell? ⟨gb212, 0, none⟩ = some (.slice A0_0 l0_0.length c0_0) := (blk_cell BK212.out 0).trans rfl
         have hfz12_0 := blk_frozen BK212.out 0
         have p214 : 0 ≤ (x15_1 : Int) := of_decide_eq_true (by first | (with_reducible assumption) | assumption)
         have q214 : x15_1 < (l0_0.length : Int) := of_decide_eq_true (by first | (with_reducible assumption) | assumption)
         obtain ⟨ad214, A214_0, c214_0, e214, hx214_0, hl214_0, hi214_0⟩ := at_L7 HR0_0.out x15_1 p214 q214
         cases e214
         replace hx214_0 := cB_ HB.out hx214_0
         have HR214_0 := aM_ hi214_0
         have HC214_0 := aM_ hl214_0
         clear hi214_0 hl214_0
         replace p214 := eq_true p214
         replace q214 := eq_true q214
         go_wp2_with (first | ((with_reducible refine gate_callee (f := 106) rfl ?_); refine gL_ (some 28) Try.func106 #[.int .i64 (rd l1 x15_1), .int .i64 0, .int .i64 (wrap64 (((rd_L7 l0_0 x15_1).length : Int) - 1))] ?_; (with_reducible refine (impl_within.calls (rd l1 x15_1) 0 (wrap64 (((rd_L7 l0_0 x15_1).length : Int) - 1)) true _ A10.out).mono ?_); rintro e w' ⟨rfl, ⟨nd, rfl⟩⟩; refine ⟨_, rfl, ?_⟩))
         go_roundg k1
         case measure => have := HK1.out; omega
         case rel => exact ⟨(wrap64 (x15_1 + 1)), (by first | rfl | (simp; done) | (simp [*]; done)), H', ⟨by have := HK1.out; omega⟩, ⟨rW_ BK212.out⟩, ⟨gW_ HB.out⟩⟩
        ·replace c11 := Bool.eq_false_iff.mpr c11
         subst c11
         have H1 : (some false) = some r := by rw [if_neg (show ¬ (false = true) by decide)] at H; exact H
         clear H
         have H := H1
         clear H1
         obtain rfl := Option.some.inj H
         have p213 : 0 ≤ (x15_1 : Int) := of_decide_eq_true (by first | (with_reducible assumption) | assumption)
         have q213 : x15_1 < (l1.length : Int) := of_decide_eq_true (by first | (with_reducible assumption) | assumption)
         obtain ⟨ad213, e213, hx213_0⟩ := Kd.at_int HR1.out x15_1 p213 q213
         cases e213
         replace hx213_0 := cB_ HB.out hx213_0
         replace p213 := eq_true p213
         replace q213 := eq_true q213
         have hcz13_0 : wr.cell? ⟨gb212, 0, none⟩ = some (.slice A0_0 l0_0.length c0_0) := (blk_cell BK212.out 0).trans rfl
         have hfz13_0 := blk_frozen BK212.out 0
         have p214 : 0 ≤ (x15_1 : Int) := of_decide_eq_true (by first | (with_reducible assumption) | assumption)
         have q214 : x15_1 < (l0_0.length : Int) := of_decide_eq_true (by first | (with_reducible assumption) | assumption)
         obtain ⟨ad214, A214_0, c214_0, e214, hx214_0, hl214_0, hi214_0⟩ := at_L7 HR0_0.out x15_1 p214 q214
         cases e214
         replace hx214_0 := cB_ HB.out hx214_0
         have HR214_0 := aM_ hi214_0
         have HC214_0 := aM_ hl214_0
         clear hi214_0 hl214_0
         replace p214 := eq_true p214
         replace q214 := eq_true q214
         go_wp2_with (first | ((with_reducible refine gate_callee (f := 106) rfl ?_); refine gL_ (some 28) Try.func106 #[.int .i64 (rd l1 x15_1), .int .i64 0, .int .i64 (wrap64 (((rd_L7 l0_0 x15_1).length : Int) - 1))] ?_; (with_reducible refine (impl_within.calls (rd l1 x15_1) 0 (wrap64 (((rd_L7 l0_0 x15_1).length : Int) - 1)) false _ A10.out).mono ?_); rintro e w' ⟨rfl, ⟨nd, rfl⟩⟩; refine ⟨_, rfl, ?_⟩))
         go_ret
         exact fI_ HB.out
       ·rw [if_neg c9] at H
        exact absurd H (by simp)
      ·rw [if_neg c8] at H
       exact absurd H (by simp)
     ·rw [if_neg c7] at H
      exact absurd H (by simp)
    ·rw [if_neg c6] at H
     have c6b0 : decide (x15_1 < (l1.length : Int)) = false := decide_eq_false c6
     clear c6
     obtain rfl := Option.some.inj H
     go_wp2
     go_ret
     exact fI_ HB.out
 ·rw [if_neg c3] at H
  have c3b0 : ((l1.length : Int) == (l0_0.length : Int)) = false := beq_eq_false_iff_ne.mpr c3
  have c3b1 : ((l1.length : Int) != (l0_0.length : Int)) = true := bne_iff_ne.mpr c3
  have c3b2 : (l1.length == l0_0.length) = false := by first | simpa using c3 | (simp at c3 ⊢; omega)
  obtain rfl := Option.some.inj H
  go_enter Try.func137, Try.ntmps137
  go_wp2_with (first | ((with_reducible refine gate_dst (N := 2) rfl ?_); refine bX_ 2 (cs := #[.slice A0_0 l0_0.length c0_0]) (t := 57) ?_; intro gb212 hg w14 hbox hb; have BK212 := aM_ (hbox); have GE212 := aM_ (sZ_ hg HB.out); replace HB := aM_ (sT_ HB.out hb); clear hb hbox hg; have hcz15_0 : w14.cell? ⟨gb212, 0, none⟩ = some (.slice A0_0 l0_0.length c0_0) := (blk_cell BK212.out 0).trans rfl; have hfz15_0 := blk_frozen BK212.out 0))
  go_ret
  exact fI_ HB.out
mutual
def impl_MemoryOk.l0 : Nat → List (List (S170)) → Int → Int → List (List (S170)) → Option (Bool)
  | 0, _, _, _, _ => none
  | k + 1, x8, x9, x10, x217000 => if x10 < x9 then (if 0 ≤ x10 then (if x10 < (x8.length : Int) then ((impl_within.f ((rd_L7 x8 x10).length : Int) 1 4000).bind fun t218 => (if t218 = true then (impl_MemoryOk.l1 k x8 x9 x10 (rd_L7 x8 x10) ((rd_L7 x8 x10).length : Int) 0 x217000) else (some false))) else (none)) else (none)) else (some ((x217000.length : Int) == 24))
def impl_MemoryOk.l1 : Nat → List (List (S170)) → Int → Int → List (S170) → Int → Int → List (List (S170)) → Option (Bool)
  | 0, _, _, _, _, _, _, _ => none
  | k + 1, x8, x9, x10, x18, x19, x20, x217000 => if x20 < x19 then (if 0 ≤ x20 then (if x20 < (x18.length : Int) then ((impl_ViewOk.f k x217000 ((rd_T170 x18 x20).f1)).bind fun t221 => (if t221 = true then (impl_MemoryOk.l1 k x8 x9 x10 x18 x19 (wrap64 (x20 + 1)) x217000) else (some false))) else (none)) else (none)) else (impl_MemoryOk.l0 k x8 x9 (wrap64 (x10 + 1)) x217000)
end
def impl_MemoryOk.f (k : Nat) (l0_0 : List (List (S170))) : Option (Bool) := impl_MemoryOk.l0 k l0_0 (l0_0.length : Int) 0 l0_0
set_option maxHeartbeats 8000000 in
set_option maxRecDepth 100000 in
theorem impl_MemoryOk.calls (k : Nat) (A0_0 : Option Addr) (c0_0 : Nat) (l0_0 : List (List (S170))) (r : Bool) (w : World) (hr0_0 : Kd.C (Kd.slice 170 k170) w A0_0 l0_0.length l0_0) (hc0_0 : l0_0.length ≤ c0_0) (h : impl_MemoryOk.f k l0_0 = some r) :
  Calls Try.prog 114 #[.agg #[.slice A0_0 l0_0.length c0_0]] w fun e w' => e = .returned (.bool r) ∧ Below w.heap.size w w' := by
 have hu57 := Try.underlying57
 have hu170 := Try.underlying170
 have HR0_0 := aM_ hr0_0
 have HC0_0 := aM_ hc0_0
 clear hr0_0 hc0_0
 have HB := aM_ (Below.refl w.heap.size w)
 have H : (impl_MemoryOk.l0 k l0_0 (l0_0.length : Int) 0 l0_0) = some r := h
 clear h
 have H' := aM_ H
 clear H
 go_enter Try.func114, Try.ntmps114
 go_wp2_with (first | ((with_reducible refine gate_dst (N := 1) rfl ?_); refine bX_ 1 (cs := #[.slice A0_0 l0_0.length c0_0]) (t := 57) ?_; intro gb216 hg w2 hbox hb; have BK216 := aM_ (hbox); have GE216 := aM_ (sZ_ hg HB.out); replace HB := aM_ (sT_ HB.out hb); clear hb hbox hg; have hcz3_0 : w2.cell? ⟨gb216, 0, none⟩ = some (.slice A0_0 l0_0.length c0_0) := (blk_cell BK216.out 0).trans rfl; have hfz3_0 := blk_frozen BK216.out 0))
 go_loopg [10] k (fun kq v10 w' => ∃ (x10_1 : Int), v10 = .int .i64 x10_1 ∧ Aside0 (impl_MemoryOk.l0 kq l0_0 (l0_0.length : Int) x10_1 l0_0 = some r) ∧ Aside0 (kq ≤ k) ∧ Aside0 (w'.heap[gb216]? = some (.cells #[(.slice A0_0 l0_0.length c0_0)] 57 (0, 0))) ∧ Aside0 (Below w.heap.size w w'))
 case atStart => exact ⟨(0), (by first | rfl | (simp; done) | (simp [*]; done)), H', ⟨Nat.le_refl _⟩, ⟨rW_ BK216.out⟩, ⟨gW_ HB.out⟩⟩
 case round =>
  clear H'
  try clear c1
  try clear p2
  try clear hcz3_0 hfz3_0
  obtain ⟨x10_1, rfl, HA, HK1, BK216, HB⟩ := hrel
  cases gk with
  | zero => exact absurd HA.out (by simp [impl_MemoryOk.l0])
  | succ k1 =>
   have H := HA.out
   clear HA
   simp only [impl_MemoryOk.l0] at H
   by_cases c4 : x10_1 < (l0_0.length : Int)
   ·rw [if_pos c4] at H
    have c4b0 : decide (x10_1 < (l0_0.length : Int)) = true := decide_eq_true c4
    clear c4
    by_cases c5 : 0 ≤ x10_1
    ·rw [if_pos c5] at H
     have c5b0 : decide (0 ≤ x10_1) = true := decide_eq_true c5
     clear c5
     by_cases c6 : x10_1 < (l0_0.length : Int)
     ·rw [if_pos c6] at H
      have c6b0 : decide (x10_1 < (l0_0.length : Int)) = true := decide_eq_true c6
      clear c6
      replace H := Option.bind_eq_some_iff.mp H
      obtain ⟨t218, A70, H⟩ := H
      replace H : (if t218 = true then (impl_MemoryOk.l1 k1 l0_0 (l0_0.length : Int) x10_1 (rd_L7 l0_0 x10_1) ((rd_L7 l0_0 x10_1).length : Int) 0 l0_0) else (some false)) = some r := H
      have A7 := aM_ A70
      clear A70
      by_cases c8 : t218 = true
      ·subst c8
       have H1 : (impl_MemoryOk.l1 k1 l0_0 (l0_0.length : Int) x10_1 (rd_L7 l0_0 x10_1) ((rd_L7 l0_0 x10_1).length : Int) 0 l0_0) = some r := by rw [if_pos rfl] at H; exact H
       clear H
       have H := H1
       clear H1
       have H' := aM_ H
       clear H
       have p217 : 0 ≤ (x10_1 : Int) := of_decide_eq_true (by first | (with_reducible assumption) | assumption)
       have q217 : x10_1 < (l0_0.length : Int) := of_decide_eq_true (by first | (with_reducible assumption) | assumption)
       obtain ⟨ad217, A217_0, c217_0, e217, hx217_0, hl217_0, hi217_0⟩ := at_L7 HR0_0.out x10_1 p217 q217
       cases e217
       replace hx217_0 := cB_ HB.out hx217_0
       have HR217_0 := aM_ hi217_0
       have HC217_0 := aM_ hl217_0
       clear hi217_0 hl217_0
       replace p217 := eq_true p217
       replace q217 := eq_true q217
       go_wp2_with (first | ((with_reducible refine gate_callee (f := 106) rfl ?_); refine gL_ (some 16) Try.func106 #[.int .i64 ((rd_L7 l0_0 x10_1).length : Int), .int .i64 1, .int .i64 4000] ?_; (with_reducible refine (impl_within.calls ((rd_L7 l0_0 x10_1).length : Int) 1 4000 true _ A7.out).mono ?_); rintro e w' ⟨rfl, ⟨nd, rfl⟩⟩; refine ⟨_, rfl, ?_⟩))
       go_loopg [20] k1 (fun kq v20 w' => ∃ (x20_2 : Int), v20 = .int .i64 x20_2 ∧ Aside0 (impl_MemoryOk.l1 kq l0_0 (l0_0.length : Int) x10_1 (rd_L7 l0_0 x10_1) ((rd_L7 l0_0 x10_1).length : Int) x20_2 l0_0 = some r) ∧ Aside0 (kq ≤ k1) ∧ Aside0 (w'.heap[gb216]? = some (.cells #[(.slice (some ad217) l0_0.length c0_0)] 57 (0, 0))) ∧ Aside0 (Below w.heap.size w w'))
       case atStart => exact ⟨(0), (by first | rfl | (simp; done) | (simp [*]; done)), H', ⟨Nat.le_refl _⟩, ⟨rW_ BK216.out⟩, ⟨gW_ HB.out⟩⟩
       case round =>
        clear H'
        try clear c1
        try clear c2
        try clear p2
        try clear q2
        try clear hx2
        try clear c4
        try clear c4b0
        try clear c5
        try clear c5b0
        try clear c6
        try clear c6b0
        try clear c8
        try clear hcz3_0 hfz3_0
        try clear hx217_0
        try clear p2
        try clear p217
        try clear q217
        obtain ⟨x20_2, rfl, HA, HK2, BK216, HB⟩ := hrel
        cases gk with
        | zero => exact absurd HA.out (by simp [impl_MemoryOk.l1])
        | succ k2 =>
         have H := HA.out
         clear HA
         simp only [impl_MemoryOk.l1] at H
         by_cases c9 : x20_2 < ((rd_L7 l0_0 x10_1).length : Int)
         ·rw [if_pos c9] at H
          have c9b0 : decide (x20_2 < ((rd_L7 l0_0 x10_1).length : Int)) = true := decide_eq_true c9
          clear c9
          by_cases c10 : 0 ≤ x20_2
          ·rw [if_pos c10] at H
           have c10b0 : decide (0 ≤ x20_2) = true := decide_eq_true c10
           clear c10
           by_cases c11 : x20_2 < ((rd_L7 l0_0 x10_1).length : Int)
           ·rw [if_pos c11] at H
            have c11b0 : decide (x20_2 < ((rd_L7 l0_0 x10_1).length : Int)) = true := decide_eq_true c11
            clear c11
            replace H := Option.bind_eq_some_iff.mp H
            obtain ⟨t221, A120, H⟩ := H
            replace H : (if t221 = true then (impl_MemoryOk.l1 k2 l0_0 (l0_0.length : Int) x10_1 (rd_L7 l0_0 x10_1) ((rd_L7 l0_0 x10_1).length : Int) (wrap64 (x20_2 + 1)) l0_0) else (some false)) = some r := H
            have A12 := aM_ A120
            clear A120
            by_cases c13 : t221 = true
            ·subst c13
             have H1 : (impl_MemoryOk.l1 k2 l0_0 (l0_0.length : Int) x10_1 (rd_L7 l0_0 x10_1) ((rd_L7 l0_0 x10_1).length : Int) (wrap64 (x20_2 + 1)) l0_0) = some r := by rw [if_pos rfl] at H; exact H
             clear H
             have H := H1
             clear H1
             have H' := aM_ H
             clear H
             have p219 : 0 ≤ (x20_2 : Int) := of_decide_eq_true (by first | (with_reducible assumption) | assumption)
             have q219 : x20_2 < ((rd_L7 l0_0 x10_1).length : Int) := of_decide_eq_true (by first | (with_reducible assumption) | assumption)
             obtain ⟨ad219, A219_1, c219_1, e219, hx219_0, hx219_1, hl219_1, hi219_1⟩ := at_T170 HR217_0.out x20_2 p219 q219
             cases e219
             replace hx219_0 := cB_ HB.out hx219_0
             replace hx219_1 := cB_ HB.out hx219_1
             have HR219_1 := aM_ hi219_1
             have HC219_1 := aM_ hl219_1
             clear hi219_1 hl219_1
             replace p219 := eq_true p219
             replace q219 := eq_true q219
             go_wp2_with (first | ((with_reducible refine gate_dst (N := 6) rfl ?_); refine bX_ 6 (cs := #[.int .i64 0, .slice none 0 0]) (t := 170) ?_; intro gb220 hg w14 hbox hb; have BK220 := aM_ (hbox); have GE220 := aM_ (sZ_ hg HB.out); have NB216_220 := aM_ (nL_ hg BK216.out); have NB220_216 := aM_ (nG_ hg BK216.out); replace BK216 := aM_ (nB_ BK216.out hb); replace HB := aM_ (sT_ HB.out hb); clear hb hbox hg; have hnb15 := NB220_216.out; have hnc15 := NB216_220.out; have z_16 := bR2_ BK220.out; have hcz17_0 : w14.cell? ⟨gb216, 0, none⟩ = some (.slice (some ad217) l0_0.length c0_0) := (blk_cell BK216.out 0).trans rfl; have hfz17_0 := blk_frozen BK216.out 0) | ((with_reducible refine gate_callee (f := 137) rfl ?_); refine gL_ (some 27) Try.func137 #[.agg #[.slice (some ad217) l0_0.length c0_0], .slice A219_1 ((rd_T170 (rd_L7 l0_0 x10_1) x20_2).f1).length c219_1] ?_; (with_reducible refine (impl_ViewOk.calls k2 _ _ l0_0 _ _ ((rd_T170 (rd_L7 l0_0 x10_1) x20_2).f1) true _ ?side1 ?side2 ?side3 ?side4 A12.out).mono ?_); (case side1 => exact Kd.C_below HR0_0.out (gB_ HB.out)); (case side2 => exact HC0_0.out); (case side3 => exact Kd.C_below HR219_1.out (gB_ HB.out)); (case side4 => exact HC219_1.out); rintro e w18 ⟨rfl, hb⟩; refine ⟨_, rfl, ?_⟩; replace BK216 := aM_ (nBf_ BK216.out hb); replace BK220 := aM_ (blk_below (g := gb220) (o := .cells #[.int .i64 ((rd_T170 (rd_L7 l0_0 x10_1) x20_2).f0), .slice A219_1 ((rd_T170 (rd_L7 l0_0 x10_1) x20_2).f1).length c219_1] 170 (0, 0)) (by (with_reducible repeat (first | refine bN_ ?_ _ | refine bD_ ?_ | refine bA_ ?_ _)); refine blk_put (cs := #[.int .i64 ((rd_T170 (rd_L7 l0_0 x10_1) x20_2).f0), .slice none 0 0]) ?_ 1 _ rfl; refine blk_put (cs := #[.int .i64 0, .slice none 0 0]) ?_ 0 _ rfl; exact rW_ BK220.out) hb); replace HB := aM_ (sT_ HB.out hb)))
             go_roundg k2
             case measure => have := HK1.out; have := HK2.out; omega
             case rel => exact ⟨(wrap64 (x20_2 + 1)), (by first | rfl | (simp; done) | (simp [*]; done)), H', ⟨by have := HK1.out; have := HK2.out; omega⟩, ⟨rW_ BK216.out⟩, ⟨gW_ HB.out⟩⟩
            ·replace c13 := Bool.eq_false_iff.mpr c13
             subst c13
             have H1 : (some false) = some r := by rw [if_neg (show ¬ (false = true) by decide)] at H; exact H
             clear H
             have H := H1
             clear H1
             obtain rfl := Option.some.inj H
             have p219 : 0 ≤ (x20_2 : Int) := of_decide_eq_true (by first | (with_reducible assumption) | assumption)
             have q219 : x20_2 < ((rd_L7 l0_0 x10_1).length : Int) := of_decide_eq_true (by first | (with_reducible assumption) | assumption)
             obtain ⟨ad219, A219_1, c219_1, e219, hx219_0, hx219_1, hl219_1, hi219_1⟩ := at_T170 HR217_0.out x20_2 p219 q219
             cases e219
             replace hx219_0 := cB_ HB.out hx219_0
             replace hx219_1 := cB_ HB.out hx219_1
             have HR219_1 := aM_ hi219_1
             have HC219_1 := aM_ hl219_1
             clear hi219_1 hl219_1
             replace p219 := eq_true p219
             replace q219 := eq_true q219
             go_wp2_with (first | ((with_reducible refine gate_dst (N := 6) rfl ?_); refine bX_ 6 (cs := #[.int .i64 0, .slice none 0 0]) (t := 170) ?_; intro gb220 hg w19 hbox hb; have BK220 := aM_ (hbox); have GE220 := aM_ (sZ_ hg HB.out); have NB216_220 := aM_ (nL_ hg BK216.out); have NB220_216 := aM_ (nG_ hg BK216.out); replace BK216 := aM_ (nB_ BK216.out hb); replace HB := aM_ (sT_ HB.out hb); clear hb hbox hg; have hnb20 := NB220_216.out; have hnc20 := NB216_220.out; have z_21 := bR2_ BK220.out; have hcz22_0 : w19.cell? ⟨gb216, 0, none⟩ = some (.slice (some ad217) l0_0.length c0_0) := (blk_cell BK216.out 0).trans rfl; have hfz22_0 := blk_frozen BK216.out 0) | ((with_reducible refine gate_callee (f := 137) rfl ?_); refine gL_ (some 27) Try.func137 #[.agg #[.slice (some ad217) l0_0.length c0_0], .slice A219_1 ((rd_T170 (rd_L7 l0_0 x10_1) x20_2).f1).length c219_1] ?_; (with_reducible refine (impl_ViewOk.calls k2 _ _ l0_0 _ _ ((rd_T170 (rd_L7 l0_0 x10_1) x20_2).f1) false _ ?side1 ?side2 ?side3 ?side4 A12.out).mono ?_); (case side1 => exact Kd.C_below HR0_0.out (gB_ HB.out)); (case side2 => exact HC0_0.out); (case side3 => exact Kd.C_below HR219_1.out (gB_ HB.out)); (case side4 => exact HC219_1.out); rintro e w23 ⟨rfl, hb⟩; refine ⟨_, rfl, ?_⟩; replace BK216 := aM_ (nBf_ BK216.out hb); replace BK220 := aM_ (blk_below (g := gb220) (o := .cells #[.int .i64 ((rd_T170 (rd_L7 l0_0 x10_1) x20_2).f0), .slice A219_1 ((rd_T170 (rd_L7 l0_0 x10_1) x20_2).f1).length c219_1] 170 (0, 0)) (by (with_reducible repeat (first | refine bN_ ?_ _ | refine bD_ ?_ | refine bA_ ?_ _)); refine blk_put (cs := #[.int .i64 ((rd_T170 (rd_L7 l0_0 x10_1) x20_2).f0), .slice none 0 0]) ?_ 1 _ rfl; refine blk_put (cs := #[.int .i64 0, .slice none 0 0]) ?_ 0 _ rfl; exact rW_ BK220.out) hb); replace HB := aM_ (sT_ HB.out hb)))
             go_ret
             exact fI_ HB.out
           ·rw [if_neg c11] at H
            exact absurd H (by simp)
          ·rw [if_neg c10] at H
           exact absurd H (by simp)
         ·rw [if_neg c9] at H
          have c9b0 : decide (x20_2 < ((rd_L7 l0_0 x10_1).length : Int)) = false := decide_eq_false c9
          clear c9
          have H' := aM_ H
          clear H
          go_wp2
          go_roundg k2
          case measure => have := HK1.out; have := HK2.out; omega
          case rel => exact ⟨(wrap64 (x10_1 + 1)), (by first | rfl | (simp; done) | (simp [*]; done)), H', ⟨by have := HK1.out; have := HK2.out; omega⟩, ⟨rW_ BK216.out⟩, ⟨gW_ HB.out⟩⟩
      ·replace c8 := Bool.eq_false_iff.mpr c8
       subst c8
       have H1 : (some false) = some r := by rw [if_neg (show ¬ (false = true) by decide)] at H; exact H
       clear H
       have H := H1
       clear H1
       obtain rfl := Option.some.inj H
       have p217 : 0 ≤ (x10_1 : Int) := of_decide_eq_true (by first | (with_reducible assumption) | assumption)
       have q217 : x10_1 < (l0_0.length : Int) := of_decide_eq_true (by first | (with_reducible assumption) | assumption)
       obtain ⟨ad217, A217_0, c217_0, e217, hx217_0, hl217_0, hi217_0⟩ := at_L7 HR0_0.out x10_1 p217 q217
       cases e217
       replace hx217_0 := cB_ HB.out hx217_0
       have HR217_0 := aM_ hi217_0
       have HC217_0 := aM_ hl217_0
       clear hi217_0 hl217_0
       replace p217 := eq_true p217
       replace q217 := eq_true q217
       go_wp2_with (first | ((with_reducible refine gate_callee (f := 106) rfl ?_); refine gL_ (some 16) Try.func106 #[.int .i64 ((rd_L7 l0_0 x10_1).length : Int), .int .i64 1, .int .i64 4000] ?_; (with_reducible refine (impl_within.calls ((rd_L7 l0_0 x10_1).length : Int) 1 4000 false _ A7.out).mono ?_); rintro e w' ⟨rfl, ⟨nd, rfl⟩⟩; refine ⟨_, rfl, ?_⟩))
       go_ret
       exact fI_ HB.out
     ·rw [if_neg c6] at H
      exact absurd H (by simp)
    ·rw [if_neg c5] at H
     exact absurd H (by simp)
   ·rw [if_neg c4] at H
    have c4b0 : decide (x10_1 < (l0_0.length : Int)) = false := decide_eq_false c4
    clear c4
    obtain rfl := Option.some.inj H
    have hcz24_0 : wr.cell? ⟨gb216, 0, none⟩ = some (.slice A0_0 l0_0.length c0_0) := (blk_cell BK216.out 0).trans rfl
    have hfz24_0 := blk_frozen BK216.out 0
    go_wp2
    go_ret
    exact fI_ HB.out
def impl_notesOk.l0 : Nat → List (S35) → Int → List (S35) → Int → Int → Option (Bool)
  | 0, _, _, _, _, _ => none
  | k + 1, x0, x1, x7, x8, x9 => if x9 < x8 then (if 0 ≤ x9 then (if x9 < (x7.length : Int) then ((impl_within.f ((rd_T35 x7 x9).f0) 0 (wrap64 (x1 - 1))).bind fun t224 => (if t224 = true then (impl_notesOk.l0 k x0 x1 x7 x8 (wrap64 (x9 + 1))) else (some false))) else (none)) else (none)) else (some (decide ((x0.length : Int) ≤ 4000)))
def impl_notesOk.f (k : Nat) (l0 : List (S35)) (a1 : Int) : Option (Bool) := impl_notesOk.l0 k l0 a1 l0 (l0.length : Int) 0
set_option maxHeartbeats 8000000 in
set_option maxRecDepth 100000 in
theorem impl_notesOk.calls (k : Nat) (A0 : Option Addr) (c0 : Nat) (l0 : List (S35)) (a1 : Int) (r : Bool) (w : World) (hr0 : Kd.C k35 w A0 l0.length l0) (hc0 : l0.length ≤ c0) (h : impl_notesOk.f k l0 a1 = some r) :
  Calls Try.prog 135 #[.slice A0 l0.length c0, .int .i64 a1] w fun e w' => e = .returned (.bool r) ∧ Below w.heap.size w w' := by
 have hu35 := Try.underlying35
 have HR0 := aM_ hr0
 have HC0 := aM_ hc0
 clear hr0 hc0
 have HB := aM_ (Below.refl w.heap.size w)
 have H : (impl_notesOk.l0 k l0 a1 l0 (l0.length : Int) 0) = some r := h
 clear h
 have H' := aM_ H
 clear H
 go_enter Try.func135, Try.ntmps135
 go_wp2
 go_loopg [9] k (fun kq v9 w' => ∃ (x9_1 : Int), v9 = .int .i64 x9_1 ∧ Aside0 (impl_notesOk.l0 kq l0 a1 l0 (l0.length : Int) x9_1 = some r) ∧ Aside0 (kq ≤ k) ∧ Aside0 (Below w.heap.size w w'))
 case atStart => exact ⟨(0), (by first | rfl | (simp; done) | (simp [*]; done)), H', ⟨Nat.le_refl _⟩, ⟨gW_ HB.out⟩⟩
 case round =>
  clear H'
  try clear c1
  try clear p2
  obtain ⟨x9_1, rfl, HA, HK1, HB⟩ := hrel
  cases gk with
  | zero => exact absurd HA.out (by simp [impl_notesOk.l0])
  | succ k1 =>
   have H := HA.out
   clear HA
   simp only [impl_notesOk.l0] at H
   by_cases c3 : x9_1 < (l0.length : Int)
   ·rw [if_pos c3] at H
    have c3b0 : decide (x9_1 < (l0.length : Int)) = true := decide_eq_true c3
    clear c3
    by_cases c4 : 0 ≤ x9_1
    ·rw [if_pos c4] at H
     have c4b0 : decide (0 ≤ x9_1) = true := decide_eq_true c4
     clear c4
     by_cases c5 : x9_1 < (l0.length : Int)
     ·rw [if_pos c5] at H
      have c5b0 : decide (x9_1 < (l0.length : Int)) = true := decide_eq_true c5
      clear c5
      replace H := Option.bind_eq_some_iff.mp H
      obtain ⟨t224, A60, H⟩ := H
      replace H : (if t224 = true then (impl_notesOk.l0 k1 l0 a1 l0 (l0.length : Int) (wrap64 (x9_1 + 1))) else (some false)) = some r := H
      have A6 := aM_ A60
      clear A60
      by_cases c7 : t224 = true
      ·subst c7
       have H1 : (impl_notesOk.l0 k1 l0 a1 l0 (l0.length : Int) (wrap64 (x9_1 + 1))) = some r := by rw [if_pos rfl] at H; exact H
       clear H
       have H := H1
       clear H1
       have H' := aM_ H
       clear H
       have p222 : 0 ≤ (x9_1 : Int) := of_decide_eq_true (by first | (with_reducible assumption) | assumption)
       have q222 : x9_1 < (l0.length : Int) := of_decide_eq_true (by first | (with_reducible assumption) | assumption)
       obtain ⟨ad222, e222, hx222_0, hx222_1⟩ := at_T35 HR0.out x9_1 p222 q222
       cases e222
       replace hx222_0 := cB_ HB.out hx222_0
       replace hx222_1 := cB_ HB.out hx222_1
       replace p222 := eq_true p222
       replace q222 := eq_true q222
       go_wp2_with (first | ((with_reducible refine gate_dst (N := 6) rfl ?_); refine bX_ 6 (cs := #[.int .i64 0, .int .i64 0]) (t := 35) ?_; intro gb223 hg w8 hbox hb; have BK223 := aM_ (hbox); have GE223 := aM_ (sZ_ hg HB.out); replace HB := aM_ (sT_ HB.out hb); clear hb hbox hg; have z_9 := bR2_ BK223.out) | ((with_reducible refine gate_callee (f := 106) rfl ?_); refine gL_ (some 17) Try.func106 #[.int .i64 ((rd_T35 l0 x9_1).f0), .int .i64 0, .int .i64 (wrap64 (a1 - 1))] ?_; (with_reducible refine (impl_within.calls ((rd_T35 l0 x9_1).f0) 0 (wrap64 (a1 - 1)) true _ A6.out).mono ?_); rintro e w' ⟨rfl, ⟨nd, rfl⟩⟩; refine ⟨_, rfl, ?_⟩))
       go_roundg k1
       case measure => have := HK1.out; omega
       case rel => exact ⟨(wrap64 (x9_1 + 1)), (by first | rfl | (simp; done) | (simp [*]; done)), H', ⟨by have := HK1.out; omega⟩, ⟨gW_ HB.out⟩⟩
      ·replace c7 := Bool.eq_false_iff.mpr c7
       subst c7
       have H1 : (some false) = some r := by rw [if_neg (show ¬ (false = true) by decide)] at H; exact H
       clear H
       have H := H1
       clear H1
       obtain rfl := Option.some.inj H
       have p222 : 0 ≤ (x9_1 : Int) := of_decide_eq_true (by first | (with_reducible assumption) | assumption)
       have q222 : x9_1 < (l0.length : Int) := of_decide_eq_true (by first | (with_reducible assumption) | assumption)
       obtain ⟨ad222, e222, hx222_0, hx222_1⟩ := at_T35 HR0.out x9_1 p222 q222
       cases e222
       replace hx222_0 := cB_ HB.out hx222_0
       replace hx222_1 := cB_ HB.out hx222_1
       replace p222 := eq_true p222
       replace q222 := eq_true q222
       go_wp2_with (first | ((with_reducible refine gate_dst (N := 6) rfl ?_); refine bX_ 6 (cs := #[.int .i64 0, .int .i64 0]) (t := 35) ?_; intro gb223 hg w10 hbox hb; have BK223 := aM_ (hbox); have GE223 := aM_ (sZ_ hg HB.out); replace HB := aM_ (sT_ HB.out hb); clear hb hbox hg; have z_11 := bR2_ BK223.out) | ((with_reducible refine gate_callee (f := 106) rfl ?_); refine gL_ (some 17) Try.func106 #[.int .i64 ((rd_T35 l0 x9_1).f0), .int .i64 0, .int .i64 (wrap64 (a1 - 1))] ?_; (with_reducible refine (impl_within.calls ((rd_T35 l0 x9_1).f0) 0 (wrap64 (a1 - 1)) false _ A6.out).mono ?_); rintro e w' ⟨rfl, ⟨nd, rfl⟩⟩; refine ⟨_, rfl, ?_⟩))
       go_ret
       exact fI_ HB.out
     ·rw [if_neg c5] at H
      exact absurd H (by simp)
    ·rw [if_neg c4] at H
     exact absurd H (by simp)
   ·rw [if_neg c3] at H
    have c3b0 : decide (x9_1 < (l0.length : Int)) = false := decide_eq_false c3
    clear c3
    obtain rfl := Option.some.inj H
    go_wp2
    go_ret
    exact fI_ HB.out
end Go.Proofs.Ytobachfngmpeiaa.PFnExactMachineNew
namespace Go.Proofs.Ytobachfngmpeiaa.PFnExactMachineNew
open Go.RowKit Go.Proofs.YtobachfngmpeiaaW.PrintWords Go.Proofs.YtobachfngmpeiaaW.PrintLast Go.Proofs.YtobachfngmpeiaaW.PrintMore
attribute [local go_sem] max2_int min2_int max_two min_two max_three min_three max_four min_four   -- for this text's walks alone
set_option linter.unusedVariables false
set_option linter.unusedSimpArgs false
theorem eqA175 (d : Nat) (w : World) (x0 y0 : Int) (x1 y1 : Int) (x2 y2 : Int) (x3 y3 : Int) (x4 y4 : Int) :
  (Op.equalIn (d + 2) 175 (.agg #[.int .i64 x0, .int .i64 x1, .int .i64 x2, .int .i64 x3, .int .i64 x4]) (.agg #[.int .i64 y0, .int .i64 y1, .int .i64 y2, .int .i64 y3, .int .i64 y4])).run Try.prog w = .ok (x0 == y0 && (x1 == y1 && (x2 == y2 && (x3 == y3 && (x4 == y4))))) w := by
 refine eqA_of Try.underlying175 (by kernel_rfl) ?_
 refine eqf_cons (by rfl) (by go_simp; rfl) (by go_simp; rfl) (by go_simp) ?_
 refine eqf_cons (by rfl) (by go_simp; rfl) (by go_simp; rfl) (by go_simp) ?_
 refine eqf_cons (by rfl) (by go_simp; rfl) (by go_simp; rfl) (by go_simp) ?_
 refine eqf_cons (by rfl) (by go_simp; rfl) (by go_simp; rfl) (by go_simp) ?_
 exact eqf_last (by rfl) (by go_simp; rfl) (by go_simp; rfl) (by go_simp)
end Go.Proofs.Ytobachfngmpeiaa.PFnExactMachineNew
