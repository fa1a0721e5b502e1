/- A part of the proof that the law FnExactSourceNew holds for every input: the words, functions and walks that its row needs, without a condition of their own. -/
import Derived.Test.YtobachfngmpeiaaZFnExactSourceNewa2
import Derived.Test.YtobachfngmpeiaaZFnExactSourceNewa9
import Derived.Test.YtobachfngmpeiaaZFnExactSourceNews
namespace Go.Proofs.Ytobachfngmpeiaa.PFnExactSourceNew
open Go.RowKit Go.Proofs.YtobachfngmpeiaaW.PrintWords Go.Proofs.YtobachfngmpeiaaW.PrintLast Go.Proofs.YtobachfngmpeiaaW.PrintMore
attribute [local go_sem] max2_int min2_int max_two min_two max_three min_three max_four min_four   -- for this text's walks alone
set_option linter.unusedVariables false
set_option linter.unusedSimpArgs false
mutual
def impl_SourceNew.l0 : Nat → Int → Int → List Int → List (List (S192)) → List (S107) → Option ((List (S107)) × (List (S94)) × (List (S35)) × Bool)
  | 0, _, _, _, _, _ => none
  | k + 1, x14, x15, x208000, x208001, x210000 => if x15 < x14 then (if 4 ≤ 35184372088832 then (if x210000.length < 3518437208883 then (impl_SourceNew.l0 k x14 (wrap64 (x15 + 1)) x208000 x208001 (x210000 ++ [(⟨0, (List.replicate 4 0), 0⟩ : S107)])) else (none)) else (none)) else (impl_SourceNew.l1 k x208000 (x208000.length : Int) 0 x210000 ([] : List (S94)))
def impl_SourceNew.l1 : Nat → List Int → Int → Int → List (S107) → List (S94) → Option ((List (S107)) × (List (S94)) × (List (S35)) × Bool)
  | 0, _, _, _, _, _ => none
  | k + 1, x26, x27, x28, x210000, x210001 => if x28 < x27 then (if 0 ≤ x28 then (if x28 < (x26.length : Int) then (if x210001.length < 3518437208883 then (impl_SourceNew.l1 k x26 x27 (wrap64 (x28 + 1)) x210000 (x210001 ++ [(⟨rd x26 x28, ([] : List Int), false⟩ : S94)])) else (none)) else (none)) else (none)) else (some (x210000, x210001, ([] : List (S35)), true))
end
def impl_SourceNew.f (k : Nat) (l0_0 : List Int) (l0_1 : List (List (S192))) : Option ((List (S107)) × (List (S94)) × (List (S35)) × Bool) := (impl_ProgOk.f k l0_0 l0_1).bind fun t210 => (if t210 = true then (impl_SourceNew.l0 k (l0_1.length : Int) 0 l0_0 l0_1 ([] : List (S107))) else (some (([] : List (S107)), ([] : List (S94)), ([] : List (S35)), false)))
def impl_SourceNew.T6 : Bool × List (List Nat × List Nat) := (true, [([], []), ([0], [0]), ([], []), ([2], [2]), ([3], [3]), ([1, 4], [1, 4]), ([0, 1, 2, 3, 4, 5], []), ([6, 5, 5, 0, 1, 2, 3, 4, 5], [5, 6])])
def impl_SourceNew.B6 : List Nat := [0, 1, 0, 4, 12, 31, 63, 127]
theorem impl_SourceNew.tab6 : rtab .any (opsOf Try.f18 6) = impl_SourceNew.T6 := by kernel_rfl
theorem impl_SourceNew.bits6 : waitsOk impl_SourceNew.T6.2 impl_SourceNew.B6 = true := by kernel_rfl
set_option maxHeartbeats 8000000 in
set_option maxRecDepth 100000 in
theorem impl_SourceNew.calls (k : Nat) (A0_0 : Option Addr) (c0_0 : Nat) (l0_0 : List Int) (A0_1 : Option Addr) (c0_1 : Nat) (l0_1 : List (List (S192))) (r1 : List (S107)) (r2 : List (S94)) (r3 : List (S35)) (r4 : Bool) (w : World) (hr0_0 : Kd.C (Kd.int .i64) w A0_0 l0_0.length l0_0) (hc0_0 : l0_0.length ≤ c0_0) (hr0_1 : Kd.C (Kd.slice 192 k192) w A0_1 l0_1.length l0_1) (hc0_1 : l0_1.length ≤ c0_1) (h : impl_SourceNew.f k l0_0 l0_1 = some (r1, r2, r3, r4)) :
  Calls Try.prog 18 #[.agg #[.slice A0_0 l0_0.length c0_0, .slice A0_1 l0_1.length c0_1]] w fun e w' => ∃ v0_ v1_ v2_ : Value, e = .returned (.tuple #[.agg #[v0_, v1_, v2_], .bool r4]) ∧ Kd.S k107 107 w' w.heap.size (fun _ => True) v0_ r1 ∧ Kd.S k94 94 w' w.heap.size (fun _ => True) v1_ r2 ∧ Kd.R k35 35 w' w.heap.size (fun _ => True) v2_ r3 ∧ Below w.heap.size w w' := by
 have hu44 := Try.underlying44
 have hu28 := Try.underlying28
 have hu107 := Try.underlying107
 have hu94 := Try.underlying94
 have HR0_0 := aM_ hr0_0
 have HC0_0 := aM_ hc0_0
 clear hr0_0 hc0_0
 have HR0_1 := aM_ hr0_1
 have HC0_1 := aM_ hc0_1
 clear hr0_1 hc0_1
 have HB := aM_ (Below.refl w.heap.size w)
 have H : ((impl_ProgOk.f k l0_0 l0_1).bind fun t210 => (if t210 = true then (impl_SourceNew.l0 k (l0_1.length : Int) 0 l0_0 l0_1 ([] : List (S107))) else (some (([] : List (S107)), ([] : List (S94)), ([] : List (S35)), false)))) = some (r1, r2, r3, r4) := h
 clear h
 replace H := Option.bind_eq_some_iff.mp H
 obtain ⟨t210, A20, H⟩ := H
 replace H : (if t210 = true then (impl_SourceNew.l0 k (l0_1.length : Int) 0 l0_0 l0_1 ([] : List (S107))) else (some (([] : List (S107)), ([] : List (S94)), ([] : List (S35)), false))) = some (r1, r2, r3, r4) := H
 have A2 := aM_ A20
 clear A20
 by_cases c3 : t210 = true
 ·subst c3
  have H1 : (impl_SourceNew.l0 k (l0_1.length : Int) 0 l0_0 l0_1 ([] : List (S107))) = some (r1, r2, r3, r4) := by rw [if_pos rfl] at H; exact H
  clear H
  have H := H1
  clear H1
  have H' := aM_ H
  clear H
  go_enter Try.func18, Try.ntmps18
  go_wp2_with (first | ((with_reducible refine gate_dst (N := 1) rfl ?_); refine bX_ 1 (cs := #[.slice A0_0 l0_0.length c0_0, .slice A0_1 l0_1.length c0_1]) (t := 44) ?_; intro gb207 hg w4 hbox hb; have n0 := aM_ (sT_ HB.out hb); have n1 := aM_ (hbox); have n2 := aM_ (sZ_ hg HB.out); have n3 := aM_ (sZ_ hg HB.out); clear HB; have HB := n0; have BK207 := n1; have GW207 := n2; have GE207 := n3; clear n0 n1 n2 n3; clear hb hbox hg) | ((with_reducible refine gate_dst (N := 2) rfl ?_); refine bX_ 2 (cs := #[.slice none 0 0, .slice none 0 0, .slice none 0 0]) (t := 28) ?_; intro gb208 hg w5 hbox hb; have n0 := aM_ (nB_ BK207.out hb); have n1 := aM_ (sT_ HB.out hb); have n2 := aM_ (hbox); have n3 := aM_ (sZ_ hg HB.out); have n4 := aM_ (sZ_ hg HB.out); have n5 := aM_ (nL_ hg BK207.out); have n6 := aM_ (nG_ hg BK207.out); clear BK207; clear HB; have BK207 := n0; have HB := n1; have BK208 := n2; have GW208 := n3; have GE208 := n4; have NB207_208 := n5; have NB208_207 := n6; clear n0 n1 n2 n3 n4 n5 n6; clear hb hbox hg) | ((with_reducible refine gate_dst (N := 4) rfl ?_); refine bX_ 4 (cs := #[.slice none 0 0, .slice none 0 0, .slice none 0 0]) (t := 28) ?_; intro gb209 hg w6 hbox hb; have n0 := aM_ (nB_ BK207.out hb); have n1 := aM_ (nB_ BK208.out hb); have n2 := aM_ (sT_ HB.out hb); have n3 := aM_ (hbox); have n4 := aM_ (sZ_ hg HB.out); have n5 := aM_ (sZ_ hg HB.out); have n6 := aM_ (nL_ hg BK207.out); have n7 := aM_ (nG_ hg BK207.out); have n8 := aM_ (nL_ hg BK208.out); have n9 := aM_ (nG_ hg BK208.out); clear BK207; clear BK208; clear HB; have BK207 := n0; have BK208 := n1; have HB := n2; have BK209 := n3; have GW209 := n4; have GE209 := n5; have NB207_209 := n6; have NB209_207 := n7; have NB208_209 := n8; have NB209_208 := n9; clear n0 n1 n2 n3 n4 n5 n6 n7 n8 n9; clear hb hbox hg; have hnb7 := NB209_207.out; have hnc7 := NB207_209.out; have hnb8 := NB209_208.out; have hnc8 := NB208_209.out; obtain ⟨hcz9_0, hcz9_1, hcz9_2, hfz9_0, hfz9_1, hfz9_2⟩ := bR3_ BK209.out; have hnb10 := NB207_208.out; have hnc10 := NB208_207.out; obtain ⟨hcz11_0, hcz11_1, hfz11_0, hfz11_1⟩ := bR2_ BK207.out) | ((with_reducible refine gate_callee (f := 63) rfl ?_); refine gL_ (some 9) Try.func63 #[.agg #[.slice A0_0 l0_0.length c0_0, .slice A0_1 l0_1.length c0_1]] ?_; (with_reducible refine (impl_ProgOk.calls k _ _ l0_0 _ _ l0_1 true _ ?side1 ?side2 ?side3 ?side4 A2.out).mono ?_); (case side1 => exact Kd.C_below HR0_0.out (gB_ HB.out)); (case side2 => exact HC0_0.out); (case side3 => exact Kd.C_below HR0_1.out (gB_ HB.out)); (case side4 => exact HC0_1.out); rintro e w12 ⟨rfl, hb⟩; refine ⟨_, rfl, ?_⟩; have n0 := aM_ (nBf_ BK207.out hb); have n1 := aM_ (nBf_ BK208.out hb); have n2 := aM_ (blk_below (g := gb209) (o := .cells #[.slice none 0 0, .slice none 0 0, .slice none 0 0] 28 (0, 0)) (by (with_reducible repeat (first | refine bN_ ?_ _ | refine bD_ ?_ | refine bA_ ?_ _)); refine blk_put (cs := #[.slice none 0 0, .slice none 0 0, .slice none 0 0]) ?_ 2 _ rfl; refine blk_put (cs := #[.slice none 0 0, .slice none 0 0, .slice none 0 0]) ?_ 1 _ rfl; refine blk_put (cs := #[.slice none 0 0, .slice none 0 0, .slice none 0 0]) ?_ 0 _ rfl; exact rW_ BK209.out) hb); have n3 := aM_ (sT_ HB.out hb); clear BK207; clear BK208; clear BK209; clear HB; have BK207 := n0; have BK208 := n1; have BK209 := n2; have HB := n3; clear n0 n1 n2 n3; obtain ⟨hcz13_0, hcz13_1, hfz13_0, hfz13_1⟩ := bR2_ BK207.out))
  go_loopg [15] k (fun kq v15 w' => ∃ (x15_1 : Int) (x2100_1 : List (S107)) (u2100 : Value), v15 = .int .i64 x15_1 ∧ Aside0 (impl_SourceNew.l0 kq (l0_1.length : Int) x15_1 l0_0 l0_1 x2100_1 = some (r1, r2, r3, r4)) ∧ Aside0 (kq ≤ k) ∧ Aside0 (Kd.S k107 107 w' w.heap.size (fun _ => True) u2100 x2100_1) ∧ Aside0 (w'.heap[gb207]? = some (.cells #[(.slice A0_0 l0_0.length c0_0), (.slice A0_1 l0_1.length c0_1)] 44 (0, 0))) ∧ Aside0 (w'.heap[gb208]? = some (.cells #[(.slice none 0 0), (.slice none 0 0), (.slice none 0 0)] 28 (0, 0))) ∧ Aside0 (w'.heap[gb209]? = some (.cells #[u2100, (.slice none 0 0), (.slice none 0 0)] 28 (0, 0))) ∧ Aside0 (Below w.heap.size w w'))
  case atStart => exact ⟨(0), (([] : List (S107))), (.slice none 0 0), (by first | rfl | (simp; done) | (simp [*]; done)), H', ⟨Nat.le_refl _⟩, ⟨by first | exact Kd.S_nil _ _ _ _ _ | exact Kd.N_nil _ _ _ _ _ | exact Kd.V_nil _ _ _ _ _ | exact Kd.Q_nil _ _ _ _ _ | exact Kd.R_nil _ _ _ _ _⟩, ⟨rW_ BK207.out⟩, ⟨rW_ BK208.out⟩, ⟨rW_ BK209.out⟩, ⟨gW_ HB.out⟩⟩
  case round =>
   clear H'
   try clear c1
   try clear p2
   try clear c3
   try clear c6
   try clear c7
   try clear c8
   try clear c10
   try clear hcz11_0 hcz11_1 hfz11_0 hfz11_1
   try clear hcz13_0 hcz13_1 hfz13_0 hfz13_1
   try clear hcz9_0 hcz9_1 hcz9_2 hfz9_0 hfz9_1 hfz9_2
   obtain ⟨x15_1, x2100_1, u2100, rfl, HA, HK1, HO_210000, BK207, BK208, BK209, HB⟩ := hrel
   cases gk with
   | zero => exact absurd HA.out (by simp [impl_SourceNew.l0])
   | succ k1 =>
    have H := HA.out
    clear HA
    simp only [impl_SourceNew.l0] at H
    by_cases c14 : x15_1 < (l0_1.length : Int)
    ·rw [if_pos c14] at H
     have c14b0 : decide (x15_1 < (l0_1.length : Int)) = true := decide_eq_true c14
     clear c14
     by_cases c15 : 4 ≤ 35184372088832
     ·rw [if_pos c15] at H
      have c15b0 := eq_true c15
      have c15b1 : decide (4 ≤ 35184372088832) = true := decide_eq_true c15
      clear c15
      obtain ⟨y211, hy211⟩ : ∃ y_ : List Int, y_ = (List.replicate 4 0) := ⟨_, rfl⟩
      replace H : (if x2100_1.length < 3518437208883 then (impl_SourceNew.l0 k1 (l0_1.length : Int) (wrap64 (x15_1 + 1)) l0_0 l0_1 (x2100_1 ++ [(⟨0, y211, 0⟩ : S107)])) else (none)) = some (r1, r2, r3, r4) := by first | (rw [hy211]; with_reducible exact H) | (have H2_ := (Option.bind_some _ _).symm.trans H; rw [hy211]; with_reducible exact H2_) | (have H2_ := (Option.bind_some _ _).symm.trans H; with_reducible exact H2_) | with_reducible exact H | (rw [hy211]; exact H) | exact H
      have Ny211 := aM_ hy211
      clear hy211
      by_cases c16 : x2100_1.length < 3518437208883
      ·rw [if_pos c16] at H
       have LMc16 := aM_ c16
       clear c16
       obtain ⟨y214, hy214⟩ : ∃ y_ : List (S107), y_ = (x2100_1 ++ [(⟨0, y211, 0⟩ : S107)]) := ⟨_, rfl⟩
       replace H : (impl_SourceNew.l0 k1 (l0_1.length : Int) (wrap64 (x15_1 + 1)) l0_0 l0_1 y214) = some (r1, r2, r3, r4) := by first | (rw [hy214]; with_reducible exact H) | (have H2_ := (Option.bind_some _ _).symm.trans H; rw [hy214]; with_reducible exact H2_) | (have H2_ := (Option.bind_some _ _).symm.trans H; with_reducible exact H2_) | with_reducible exact H | (rw [hy214]; exact H) | exact H
       have Ny214 := aM_ hy214
       clear hy214
       have H' := aM_ H
       clear H
       try go_wp2
       have n0 := aM_ (Kd.S_drew HO_210000.out)
       have n1 := aM_ (blk_drew BK207.out)
       have n2 := aM_ (blk_drew BK208.out)
       have n3 := aM_ (blk_drew BK209.out)
       have n4 := aM_ (below_drew1 HB.out)
       clear HO_210000
       clear BK207
       clear BK208
       clear BK209
       clear HB
       have HO_210000 := n0
       have BK207 := n1
       have BK208 := n2
       have BK209 := n3
       have HB := n4
       clear n0 n1 n2 n3 n4
       refine start_ (n := 8) (S := fun w' => w'.cell? ⟨gb209, 0, none⟩ = some (u2100) ∧ w'.cell? ⟨gb209, 1, none⟩ = some (.slice none 0 0) ∧ w'.cell? ⟨gb209, 2, none⟩ = some (.slice none 0 0)) (ds := [7]) #[false, false, false, false, false, false, false, false] (by kernel_rfl) rfl rfl (bC3_ BK209.out) (fun hHeld => ?_); refine with_tabW impl_SourceNew.tab6 impl_SourceNew.bits6 (fun HT_ HW_ => ?_)
       generalize wr.drew = w17 at HO_210000 BK207 BK208 BK209 HB hHeld ⊢
       refine pU_ 0 (some 17) (mk_ 8 1) ?_
       refine tK3_ 1 (some 18) (mk_ 8 3) ?_
       refine oN_ 2 (some 19) (mk_ 8 7) (fun K hK => ?_)
       refine Kd.R_make_step (Kd.int .i64) _ 3 (by rfl) (N := 19) rfl 31 _ _ rfl 4 rfl rfl Try.underlying31 (.int .i64 0) 8 info3 rfl (by decide) (by omega) 0 (ok := fun _ => True) (okp := fun _ => True) rfl (fun _ hk => hk) trivial (by omega) (by omega) (Below.refl _ _) (Nat.le_refl _) ?_
       intro v212 w18 ho19 hb hg_ hnew_
       clear hg_ hnew_
       (first | rw [← Ny211.out] at ho19 | (simp only [Int.reduceToNat] at ho19; rw [← Ny211.out] at ho19))
       have n0 := aM_ (Kd.S_elder' (by (with_reducible repeat (first | apply Kd.S_alloc | apply Kd.S_drewN | apply Kd.S_drew)); exact HO_210000.out) (Kd.R_base ho19) hb)
       have n1 := aM_ (Kd.R_lower ho19 (below_size (gB_ HB.out)))
       have n2 := aM_ (nB_ BK207.out hb)
       have n3 := aM_ (nB_ BK208.out hb)
       have n4 := aM_ (nB_ BK209.out hb)
       have n5 := aM_ (sT_ HB.out hb)
       clear HO_210000
       clear BK207
       clear BK208
       clear BK209
       clear HB
       have HO_210000 := n0
       have HO213 := n1
       have BK207 := n2
       have BK208 := n3
       have BK209 := n4
       have HB := n5
       clear n0 n1 n2 n3 n4 n5
       clear hb ho19
       obtain ⟨Ao20, co20, eo20⟩ := Kd.R_slice HO213.out
       (first | subst eo20 | (injection eo20 with f1_ f2_ f3_; have f4_ := f1_.symm; have f5_ := f3_.symm; clear f1_ f2_ f3_; subst f4_; subst f5_))
       refine hK.out _ _ (bC3_ BK209.out) (fun hHeld => ?_)
       clear hK K
       refine norm_ (a' := ?_) ?_ ?_
       rotate_left
       ·show Act.put _ (some 19) _ = _
        simp only [pt_, pn_, sI_, s0_, s1_, i64_w, i32_w]
        rfl
       refine pU_ 3 (some 20) (mk_ 8 15) ?_
       refine oN_ 4 (some 21) (mk_ 8 31) (fun K hK => ?_)
       refine value_ (w1 := ?_) (v := ?_) (by rfl) rfl ?_ ?_
       rotate_left 2
       ·go_simp
        constructor
        ·rfl
        ·rfl
       refine hK.out _ _ ⟨(blk_cell (blk_alloc BK209.out _) 0).trans rfl, (blk_cell (blk_alloc BK209.out _) 1).trans rfl, (blk_cell (blk_alloc BK209.out _) 2).trans rfl⟩ (fun hHeld => ?_)
       clear hK K
       refine norm_ (a' := ?_) ?_ ?_
       rotate_left
       ·show Act.put _ (some 21) _ = _
        simp only [pt_, pn_, sI_, s0_, s1_, i64_w, i32_w]
        rfl
       refine oN_ 5 (some 22) (mk_ 8 63) (fun K hK => ?_)
       refine Kd.S_append_step k107 (w0 := w) w.heap.size (by rfl) (.tmp 18) (.tmp 21) 24 107 (.agg #[(.int .i64 0), (.slice none 0 0), (.int .i64 0)]) 40 rfl Try.underlying24 info107 rfl (by decide) (by omega) u2100 x2100_1 (⟨0, y211, 0⟩ : S107) [.int .i64 0, .slice Ao20 y211.length co20, .int .i64 0] (fun _ => True) (fun k_ => some k_ = (.slice Ao20 y211.length co20 : Value).ownBlock) rfl rfl ?aP (fun k_ hk_ => ((Kd.R_mono (ok' := fun k_ => ((fun _ => True)) k_ ∧ some k_ ≠ (u2100 : Value).ownBlock) (Kd.R_apart' (HO213.out) (Kd.S_typed HO_210000.out) (by decide)) (fun k_ hk => ⟨trivial, hk.2⟩))).1 k_ hk_.symm) ?aF ?aO ?aB ?aS ?aL ?_
       (case aP => exact k107_mkM _ _ _ (⟨0, y211, 0⟩ : S107) (Kd.R_mono (Kd.R_tight rfl (Kd.R_mono (ok' := fun k_ => ((fun _ => True)) k_ ∧ some k_ ≠ (u2100 : Value).ownBlock) (Kd.R_apart' (HO213.out) (Kd.S_typed HO_210000.out) (by decide)) (fun k_ hk => ⟨trivial, hk.2⟩))) (fun _ h_ => h_)))
       (case aB => exact (gB_ HB.out))
       (case aF => exact (fun _ _ => trivial))
       (case aO => exact (by (with_reducible repeat (first | apply Kd.S_alloc | apply Kd.S_drewN | apply Kd.S_drew)); exact Kd.S_mono HO_210000.out (fun k_ hk => ⟨trivial, fun e_ => hk.2 e_⟩)))
       (case aS => exact (below_size (gB_ HB.out)))
       (case aL => have := LMc16.out; omega)
       intro v215 w21 ho hb hg hat
       rw [← Ny214.out] at ho
       have n0 := aM_ (blk_grown (g := gb207) (o := .cells #[.slice A0_0 l0_0.length c0_0, .slice A0_1 l0_1.length c0_1] 44 (0, 0)) (by (with_reducible repeat (first | refine bN_ ?_ _ | refine bD_ ?_ | refine bA_ ?_ _)); exact BK207.out) hg (Kd.S_ne HO_210000.out BK207.out (by decide)))
       have n1 := aM_ (blk_grown (g := gb208) (o := .cells #[.slice none 0 0, .slice none 0 0, .slice none 0 0] 28 (0, 0)) (by (with_reducible repeat (first | refine bN_ ?_ _ | refine bD_ ?_ | refine bA_ ?_ _)); exact BK208.out) hg (Kd.S_ne HO_210000.out BK208.out (by decide)))
       have n2 := aM_ (blk_grown (g := gb209) (o := .cells #[u2100, .slice none 0 0, .slice none 0 0] 28 (0, 0)) (by (with_reducible repeat (first | refine bN_ ?_ _ | refine bD_ ?_ | refine bA_ ?_ _)); exact BK209.out) hg (Kd.S_ne HO_210000.out BK209.out (by decide)))
       have n3 := aM_ (hb)
       have n4 := aM_ (ho)
       clear BK207
       clear BK208
       clear BK209
       clear HB
       clear HO_210000
       clear HO213
       have BK207 := n0
       have BK208 := n1
       have BK209 := n2
       have HB := n3
       have HO216 := n4
       clear n0 n1 n2 n3 n4
       clear ho hb hg hat
       obtain ⟨Ao22, co22, eo22⟩ := Kd.S_slice HO216.out
       (first | subst eo22 | (injection eo22 with f1_ f2_ f3_; have f4_ := f1_.symm; have f5_ := f3_.symm; clear f1_ f2_ f3_; subst f4_; subst f5_))
       refine hK.out _ _ (bC3_ BK209.out) (fun hHeld => ?_)
       clear hK K
       refine norm_ (a' := ?_) ?_ ?_
       rotate_left
       ·show Act.put _ (some 22) _ = _
        simp only [pt_, pn_, sI_, s0_, s1_, i64_w, i32_w]
        rfl
       refine pU_ 6 (some 23) (mk_ 8 127) ?_
       refine last_ (i := 7) (N := none) #[true, true, true, true, true, true, true, true] rfl rfl (one_of HT_.out (by kernel_rfl)) (by decide) (fun K hK => ?_)
       have hs23 : w21.cell? ⟨gb209, 0, none⟩ = some (u2100) := (blk_cell BK209.out 0).trans rfl
       have hfs23 := blk_frozen BK209.out 0
       have hns23_0 := NB207_209.out
       have hns23_1 := NB208_209.out
       have hms23_0 := NB209_207.out
       have hms23_1 := NB209_208.out
       refine skip_ (w1 := ?_) (by rfl) rfl ?_ ?_
       rotate_left
       ·go_simp
        rfl
       refine hK.out _ _ ?_
       clear hK K
       refine done_ (done_of HT_.out (by kernel_rfl)) ?_
       try go_wp2
       go_roundg k1
       case measure => have := HK1.out; omega
       case rel => exact ⟨(wrap64 (x15_1 + 1)), (y214), (.slice Ao22 y214.length co22), (by first | rfl | (simp; done) | (simp [*]; done)), H', ⟨by have := HK1.out; omega⟩, ⟨by (with_reducible repeat (first | apply Kd.S_alloc | apply Kd.S_drewN | apply Kd.S_drew)); exact Kd.S_mono (Kd.S_far (p := ⟨gb209, 0, none⟩) (Kd.S_types HO216.out BK209.out (by decide)) (fun _ hk => hk.2) (.slice Ao22 y214.length co22)) (fun _ hk => trivial)⟩, ⟨by (with_reducible repeat (first | refine bN_ ?_ _ | refine bD_ ?_ | refine bA_ ?_ _)); refine blk_far ?_ NB207_209.out _; (with_reducible repeat (first | refine bN_ ?_ _ | refine bD_ ?_ | refine bA_ ?_ _)); exact BK207.out⟩, ⟨by (with_reducible repeat (first | refine bN_ ?_ _ | refine bD_ ?_ | refine bA_ ?_ _)); refine blk_far ?_ NB208_209.out _; (with_reducible repeat (first | refine bN_ ?_ _ | refine bD_ ?_ | refine bA_ ?_ _)); exact BK208.out⟩, ⟨by (with_reducible repeat (first | refine bN_ ?_ _ | refine bD_ ?_ | refine bA_ ?_ _)); refine blk_put (cs := #[u2100, .slice none 0 0, .slice none 0 0]) ?_ 0 _ rfl; (with_reducible repeat (first | refine bN_ ?_ _ | refine bD_ ?_ | refine bA_ ?_ _)); exact BK209.out⟩, ⟨gW_ HB.out⟩⟩
      ·rw [if_neg c16] at H
       exact absurd H (by simp)
     ·rw [if_neg c15] at H
      exact absurd H (by simp)
    ·rw [if_neg c14] at H
     have c14b0 : decide (x15_1 < (l0_1.length : Int)) = false := decide_eq_false c14
     clear c14
     have H' := aM_ H
     clear H
     have hnb24 := NB207_208.out
     have hnc24 := NB208_207.out
     have hnb25 := NB207_209.out
     have hnc25 := NB209_207.out
     obtain ⟨hcz26_0, hcz26_1, hfz26_0, hfz26_1⟩ := bR2_ BK207.out
     go_wp2
     go_loopg [28] k1 (fun kq v28 w' => ∃ (x28_2 : Int) (x2101_2 : List (S94)) (u2101 : Value), v28 = .int .i64 x28_2 ∧ Aside0 (impl_SourceNew.l1 kq l0_0 (l0_0.length : Int) x28_2 x2100_1 x2101_2 = some (r1, r2, r3, r4)) ∧ Aside0 (kq ≤ k1) ∧ Aside0 (Kd.S k107 107 w' w.heap.size (fun _ => True) u2100 x2100_1) ∧ Aside0 (Kd.S k94 94 w' w.heap.size (fun _ => True) u2101 x2101_2) ∧ Aside0 (w'.heap[gb207]? = some (.cells #[(.slice A0_0 l0_0.length c0_0), (.slice A0_1 l0_1.length c0_1)] 44 (0, 0))) ∧ Aside0 (w'.heap[gb208]? = some (.cells #[(.slice none 0 0), (.slice none 0 0), (.slice none 0 0)] 28 (0, 0))) ∧ Aside0 (w'.heap[gb209]? = some (.cells #[u2100, u2101, (.slice none 0 0)] 28 (0, 0))) ∧ Aside0 (Below w.heap.size w w'))
     case atStart => exact ⟨(0), (([] : List (S94))), (.slice none 0 0), (by first | rfl | (simp; done) | (simp [*]; done)), H', ⟨Nat.le_refl _⟩, ⟨by (with_reducible repeat (first | apply Kd.S_alloc | apply Kd.S_drewN | apply Kd.S_drew)); exact HO_210000.out⟩, ⟨by first | exact Kd.S_nil _ _ _ _ _ | exact Kd.N_nil _ _ _ _ _ | exact Kd.V_nil _ _ _ _ _ | exact Kd.Q_nil _ _ _ _ _ | exact Kd.R_nil _ _ _ _ _⟩, ⟨rW_ BK207.out⟩, ⟨rW_ BK208.out⟩, ⟨rW_ BK209.out⟩, ⟨gW_ HB.out⟩⟩
     case round =>
      clear H'
      try clear c1
      try clear c2
      try clear p2
      try clear c3
      try clear c6
      try clear p6
      try clear c7
      try clear c8
      try clear c10
      try clear c14
      try clear c14b0
      try clear c15
      try clear c15b0
      try clear c15b1
      try clear c16
      try clear c18
      try clear c24
      try clear c25
      try clear hcz11_0 hcz11_1 hfz11_0 hfz11_1
      try clear hcz13_0 hcz13_1 hfz13_0 hfz13_1
      try clear hcz26_0 hcz26_1 hfz26_0 hfz26_1
      try clear hcz9_0 hcz9_1 hcz9_2 hfz9_0 hfz9_1 hfz9_2
      try clear p2
      obtain ⟨x28_2, x2101_2, u2101, rfl, HA, HK2, HO_210000, HO_210001, BK207, BK208, BK209, HB⟩ := hrel
      cases gk with
      | zero => exact absurd HA.out (by simp [impl_SourceNew.l1])
      | succ k2 =>
       have H := HA.out
       clear HA
       simp only [impl_SourceNew.l1] at H
       by_cases c27 : x28_2 < (l0_0.length : Int)
       ·rw [if_pos c27] at H
        have c27b0 : decide (x28_2 < (l0_0.length : Int)) = true := decide_eq_true c27
        clear c27
        by_cases c28 : 0 ≤ x28_2
        ·rw [if_pos c28] at H
         have c28b0 : decide (0 ≤ x28_2) = true := decide_eq_true c28
         clear c28
         by_cases c29 : x28_2 < (l0_0.length : Int)
         ·rw [if_pos c29] at H
          have c29b0 : decide (x28_2 < (l0_0.length : Int)) = true := decide_eq_true c29
          clear c29
          by_cases c30 : x2101_2.length < 3518437208883
          ·rw [if_pos c30] at H
           have LMc30 := aM_ c30
           clear c30
           obtain ⟨y218, hy218⟩ : ∃ y_ : List (S94), y_ = (x2101_2 ++ [(⟨rd l0_0 x28_2, ([] : List Int), false⟩ : S94)]) := ⟨_, rfl⟩
           replace H : (impl_SourceNew.l1 k2 l0_0 (l0_0.length : Int) (wrap64 (x28_2 + 1)) x2100_1 y218) = some (r1, r2, r3, r4) := by first | (rw [hy218]; with_reducible exact H) | (have H2_ := (Option.bind_some _ _).symm.trans H; rw [hy218]; with_reducible exact H2_) | (have H2_ := (Option.bind_some _ _).symm.trans H; with_reducible exact H2_) | with_reducible exact H | (rw [hy218]; exact H) | exact H
           have Ny218 := aM_ hy218
           clear hy218
           have H' := aM_ H
           clear H
           have p217 : 0 ≤ (x28_2 : Int) := of_decide_eq_true (by first | (with_reducible assumption) | assumption)
           have q217 : x28_2 < (l0_0.length : Int) := of_decide_eq_true (by first | (with_reducible assumption) | assumption)
           obtain ⟨ad217, e217, hx217_0⟩ := Kd.at_int HR0_0.out x28_2 p217 q217
           cases e217
           replace hx217_0 := cB_ HB.out hx217_0
           replace p217 := eq_true p217
           replace q217 := eq_true q217
           have hnb31 := NB209_207.out
           have hnc31 := NB207_209.out
           have hnb32 := NB209_208.out
           have hnc32 := NB208_209.out
           obtain ⟨hcz33_0, hcz33_1, hcz33_2, hfz33_0, hfz33_1, hfz33_2⟩ := bR3_ BK209.out
           go_wp2_with (first | ((with_reducible refine gate_builtin (b := .append) (xs := #[.tmp 33, .tmp 36]) rfl ?_); at_builtin; refine Kd.S_append k94 (w0 := w) w.heap.size rfl (.tmp 33) (.tmp 36) 25 94 (.agg #[(.int .i64 0), (.slice none 0 0), (.bool false)]) 40 rfl Try.underlying25 info94 rfl (by decide) (by omega) u2101 x2101_2 (⟨rd l0_0 x28_2, ([] : List Int), false⟩ : S94) [.int .i64 (rd l0_0 x28_2), .slice none 0 0, .bool false] (fun _ => True) (fun _ => False) rfl rfl ?aP (fun k_ hk_ => hk_.elim) ?aF ?aO ?aB ?aS ?aL ?_; (case aP => exact k94_mkM _ _ _ (⟨rd l0_0 x28_2, ([] : List Int), false⟩ : S94) (Kd.R_nil _ _ _ _ _)); (case aB => exact (gB_ HB.out)); (case aF => exact (fun _ _ => trivial)); (case aO => exact (by (with_reducible repeat (first | apply Kd.S_alloc | apply Kd.S_drewN | apply Kd.S_drew)); exact Kd.S_mono HO_210001.out (fun k_ hk => ⟨trivial, fun e_ => e_⟩))); (case aS => exact (below_size (gB_ HB.out))); (case aL => have := LMc30.out; omega); intro v219 w34 ho hb hg hat; rw [← Ny218.out] at ho; have n0 := aM_ (Kd.S_over' (by (with_reducible repeat (first | apply Kd.S_alloc | apply Kd.S_drewN | apply Kd.S_drew)); exact HO_210000.out) (Kd.S_typed (by (with_reducible repeat (first | apply Kd.S_alloc | apply Kd.S_drewN | apply Kd.S_drew)); exact HO_210001.out)) (by decide) hg); have n1 := aM_ (blk_grown (g := gb207) (o := .cells #[.slice (some ad217) l0_0.length c0_0, .slice A0_1 l0_1.length c0_1] 44 (0, 0)) (by (with_reducible repeat (first | refine bN_ ?_ _ | refine bD_ ?_ | refine bA_ ?_ _)); exact BK207.out) hg (Kd.S_ne HO_210001.out BK207.out (by decide))); have n2 := aM_ (blk_grown (g := gb208) (o := .cells #[.slice none 0 0, .slice none 0 0, .slice none 0 0] 28 (0, 0)) (by (with_reducible repeat (first | refine bN_ ?_ _ | refine bD_ ?_ | refine bA_ ?_ _)); exact BK208.out) hg (Kd.S_ne HO_210001.out BK208.out (by decide))); have n3 := aM_ (blk_grown (g := gb209) (o := .cells #[u2100, u2101, .slice none 0 0] 28 (0, 0)) (by (with_reducible repeat (first | refine bN_ ?_ _ | refine bD_ ?_ | refine bA_ ?_ _)); exact BK209.out) hg (Kd.S_ne HO_210001.out BK209.out (by decide))); have n4 := aM_ (hb); have n5 := aM_ (ho); clear HO_210000; clear BK207; clear BK208; clear BK209; clear HB; clear HO_210001; have HO_210000 := n0; have BK207 := n1; have BK208 := n2; have BK209 := n3; have HB := n4; have HO220 := n5; clear n0 n1 n2 n3 n4 n5; clear ho hb hg hat; obtain ⟨Ao35, co35, eo35⟩ := Kd.S_slice HO220.out; subst eo35; obtain ⟨hcz36_0, hcz36_1, hcz36_2, hfz36_0, hfz36_1, hfz36_2⟩ := bR3_ BK209.out))
           go_roundg k2
           case measure => have := HK1.out; have := HK2.out; omega
           case rel => exact ⟨(wrap64 (x28_2 + 1)), (y218), (.slice Ao35 y218.length co35), (by first | rfl | (simp; done) | (simp [*]; done)), H', ⟨by have := HK1.out; have := HK2.out; omega⟩, ⟨by (with_reducible repeat (first | apply Kd.S_alloc | apply Kd.S_drewN | apply Kd.S_drew)); exact Kd.S_mono (Kd.S_far (p := ⟨gb209, 1, none⟩) (Kd.S_types HO_210000.out BK209.out (by decide)) (fun _ hk => hk.2) (.slice Ao35 y218.length co35)) (fun _ hk => trivial)⟩, ⟨by (with_reducible repeat (first | apply Kd.S_alloc | apply Kd.S_drewN | apply Kd.S_drew)); exact Kd.S_mono (Kd.S_far (p := ⟨gb209, 1, none⟩) (Kd.S_types HO220.out BK209.out (by decide)) (fun _ hk => hk.2) (.slice Ao35 y218.length co35)) (fun _ hk => trivial)⟩, ⟨by (with_reducible repeat (first | refine bN_ ?_ _ | refine bD_ ?_ | refine bA_ ?_ _)); refine blk_far ?_ NB207_209.out _; (with_reducible repeat (first | refine bN_ ?_ _ | refine bD_ ?_ | refine bA_ ?_ _)); exact BK207.out⟩, ⟨by (with_reducible repeat (first | refine bN_ ?_ _ | refine bD_ ?_ | refine bA_ ?_ _)); refine blk_far ?_ NB208_209.out _; (with_reducible repeat (first | refine bN_ ?_ _ | refine bD_ ?_ | refine bA_ ?_ _)); exact BK208.out⟩, ⟨by (with_reducible repeat (first | refine bN_ ?_ _ | refine bD_ ?_ | refine bA_ ?_ _)); refine blk_put (cs := #[u2100, u2101, .slice none 0 0]) ?_ 1 _ rfl; (with_reducible repeat (first | refine bN_ ?_ _ | refine bD_ ?_ | refine bA_ ?_ _)); exact BK209.out⟩, ⟨gW_ HB.out⟩⟩
          ·rw [if_neg c30] at H
           exact absurd H (by simp)
         ·rw [if_neg c29] at H
          exact absurd H (by simp)
        ·rw [if_neg c28] at H
         exact absurd H (by simp)
       ·rw [if_neg c27] at H
        have c27b0 : decide (x28_2 < (l0_0.length : Int)) = false := decide_eq_false c27
        clear c27
        simp only [Option.some.injEq, Prod.mk.injEq] at H
        obtain ⟨rfl, rfl, rfl, rfl⟩ := H
        have hnb37 := NB209_207.out
        have hnc37 := NB207_209.out
        have hnb38 := NB209_208.out
        have hnc38 := NB208_209.out
        obtain ⟨hcz39_0, hcz39_1, hcz39_2, hfz39_0, hfz39_1, hfz39_2⟩ := bR3_ BK209.out
        obtain ⟨Ao40, co40, eo40⟩ := Kd.S_slice HO_210000.out
        subst eo40
        have hnb41 := NB208_207.out
        have hnc41 := NB207_208.out
        obtain ⟨hcz42_0, hcz42_1, hcz42_2, hfz42_0, hfz42_1, hfz42_2⟩ := bR3_ BK208.out
        obtain ⟨Ao43, co43, eo43⟩ := Kd.S_slice HO_210001.out
        subst eo43
        go_wp2
        refine bodyPost_ret (results_ct rfl _ _ gb208 28 #[.slice Ao40 x2100_1.length co40, .slice Ao43 x2101_2.length co43, .slice none 0 0] (0, 0) _ rfl (by (with_reducible repeat (first | refine bN_ ?_ _ | refine bD_ ?_ | refine bA_ ?_ _)); refine blk_put (cs := #[.slice Ao40 x2100_1.length co40, .slice Ao43 x2101_2.length co43, .slice none 0 0]) ?_ 2 _ rfl; refine blk_put (cs := #[.slice Ao40 x2100_1.length co40, .slice none 0 0, .slice none 0 0]) ?_ 1 _ rfl; refine blk_put (cs := #[.slice none 0 0, .slice none 0 0, .slice none 0 0]) ?_ 0 _ rfl; exact rW_ BK208.out) Try.underlying28 rfl (by kernel_rfl)) rfl ?_
        exact ⟨_, _, _, fR_, by (with_reducible repeat (first | apply Kd.S_alloc | apply Kd.S_drewN | apply Kd.S_drew)); exact Kd.S_mono (Kd.S_far (p := ⟨gb208, 2, none⟩) (Kd.S_far (p := ⟨gb208, 1, none⟩) (Kd.S_far (p := ⟨gb208, 0, none⟩) (Kd.S_types HO_210000.out BK208.out (by decide)) (fun _ hk => hk.2) (.slice Ao40 x2100_1.length co40)) (fun _ hk => hk.2) (.slice Ao43 x2101_2.length co43)) (fun _ hk => hk.2) (.slice none 0 0)) (fun _ hk => trivial), by (with_reducible repeat (first | apply Kd.S_alloc | apply Kd.S_drewN | apply Kd.S_drew)); exact Kd.S_mono (Kd.S_far (p := ⟨gb208, 2, none⟩) (Kd.S_far (p := ⟨gb208, 1, none⟩) (Kd.S_far (p := ⟨gb208, 0, none⟩) (Kd.S_types HO_210001.out BK208.out (by decide)) (fun _ hk => hk.2) (.slice Ao40 x2100_1.length co40)) (fun _ hk => hk.2) (.slice Ao43 x2101_2.length co43)) (fun _ hk => hk.2) (.slice none 0 0)) (fun _ hk => trivial), by first | exact Kd.R_nil _ _ _ _ _ | exact Kd.N_nil _ _ _ _ _ | exact Kd.V_nil _ _ _ _ _ | exact Kd.Q_nil _ _ _ _ _ | exact Kd.S_nil _ _ _ _ _, gB_ HB.out⟩
 ·replace c3 := Bool.eq_false_iff.mpr c3
  subst c3
  have H1 : (some (([] : List (S107)), ([] : List (S94)), ([] : List (S35)), false)) = some (r1, r2, r3, r4) := by rw [if_neg (show ¬ (false = true) by decide)] at H; exact H
  clear H
  have H := H1
  clear H1
  simp only [Option.some.injEq, Prod.mk.injEq] at H
  obtain ⟨rfl, rfl, rfl, rfl⟩ := H
  go_enter Try.func18, Try.ntmps18
  go_wp2_with (first | ((with_reducible refine gate_dst (N := 1) rfl ?_); refine bX_ 1 (cs := #[.slice A0_0 l0_0.length c0_0, .slice A0_1 l0_1.length c0_1]) (t := 44) ?_; intro gb207 hg w44 hbox hb; have n0 := aM_ (sT_ HB.out hb); have n1 := aM_ (hbox); have n2 := aM_ (sZ_ hg HB.out); have n3 := aM_ (sZ_ hg HB.out); clear HB; have HB := n0; have BK207 := n1; have GW207 := n2; have GE207 := n3; clear n0 n1 n2 n3; clear hb hbox hg) | ((with_reducible refine gate_dst (N := 2) rfl ?_); refine bX_ 2 (cs := #[.slice none 0 0, .slice none 0 0, .slice none 0 0]) (t := 28) ?_; intro gb208 hg w45 hbox hb; have n0 := aM_ (nB_ BK207.out hb); have n1 := aM_ (sT_ HB.out hb); have n2 := aM_ (hbox); have n3 := aM_ (sZ_ hg HB.out); have n4 := aM_ (sZ_ hg HB.out); have n5 := aM_ (nL_ hg BK207.out); have n6 := aM_ (nG_ hg BK207.out); clear BK207; clear HB; have BK207 := n0; have HB := n1; have BK208 := n2; have GW208 := n3; have GE208 := n4; have NB207_208 := n5; have NB208_207 := n6; clear n0 n1 n2 n3 n4 n5 n6; clear hb hbox hg) | ((with_reducible refine gate_dst (N := 4) rfl ?_); refine bX_ 4 (cs := #[.slice none 0 0, .slice none 0 0, .slice none 0 0]) (t := 28) ?_; intro gb209 hg w46 hbox hb; have n0 := aM_ (nB_ BK207.out hb); have n1 := aM_ (nB_ BK208.out hb); have n2 := aM_ (sT_ HB.out hb); have n3 := aM_ (hbox); have n4 := aM_ (sZ_ hg HB.out); have n5 := aM_ (sZ_ hg HB.out); have n6 := aM_ (nL_ hg BK207.out); have n7 := aM_ (nG_ hg BK207.out); have n8 := aM_ (nL_ hg BK208.out); have n9 := aM_ (nG_ hg BK208.out); clear BK207; clear BK208; clear HB; have BK207 := n0; have BK208 := n1; have HB := n2; have BK209 := n3; have GW209 := n4; have GE209 := n5; have NB207_209 := n6; have NB209_207 := n7; have NB208_209 := n8; have NB209_208 := n9; clear n0 n1 n2 n3 n4 n5 n6 n7 n8 n9; clear hb hbox hg; have hnb47 := NB209_207.out; have hnc47 := NB207_209.out; have hnb48 := NB209_208.out; have hnc48 := NB208_209.out; obtain ⟨hcz49_0, hcz49_1, hcz49_2, hfz49_0, hfz49_1, hfz49_2⟩ := bR3_ BK209.out; have hnb50 := NB207_208.out; have hnc50 := NB208_207.out; obtain ⟨hcz51_0, hcz51_1, hfz51_0, hfz51_1⟩ := bR2_ BK207.out) | ((with_reducible refine gate_callee (f := 63) rfl ?_); refine gL_ (some 9) Try.func63 #[.agg #[.slice A0_0 l0_0.length c0_0, .slice A0_1 l0_1.length c0_1]] ?_; (with_reducible refine (impl_ProgOk.calls k _ _ l0_0 _ _ l0_1 false _ ?side1 ?side2 ?side3 ?side4 A2.out).mono ?_); (case side1 => exact Kd.C_below HR0_0.out (gB_ HB.out)); (case side2 => exact HC0_0.out); (case side3 => exact Kd.C_below HR0_1.out (gB_ HB.out)); (case side4 => exact HC0_1.out); rintro e w52 ⟨rfl, hb⟩; refine ⟨_, rfl, ?_⟩; have n0 := aM_ (nBf_ BK207.out hb); have n1 := aM_ (nBf_ BK208.out hb); have n2 := aM_ (blk_below (g := gb209) (o := .cells #[.slice none 0 0, .slice none 0 0, .slice none 0 0] 28 (0, 0)) (by (with_reducible repeat (first | refine bN_ ?_ _ | refine bD_ ?_ | refine bA_ ?_ _)); refine blk_put (cs := #[.slice none 0 0, .slice none 0 0, .slice none 0 0]) ?_ 2 _ rfl; refine blk_put (cs := #[.slice none 0 0, .slice none 0 0, .slice none 0 0]) ?_ 1 _ rfl; refine blk_put (cs := #[.slice none 0 0, .slice none 0 0, .slice none 0 0]) ?_ 0 _ rfl; exact rW_ BK209.out) hb); have n3 := aM_ (sT_ HB.out hb); clear BK207; clear BK208; clear BK209; clear HB; have BK207 := n0; have BK208 := n1; have BK209 := n2; have HB := n3; clear n0 n1 n2 n3; obtain ⟨hcz53_0, hcz53_1, hcz53_2, hfz53_0, hfz53_1, hfz53_2⟩ := bR3_ BK209.out; obtain ⟨hcz54_0, hcz54_1, hcz54_2, hfz54_0, hfz54_1, hfz54_2⟩ := bR3_ BK208.out))
  refine bodyPost_ret (results_ct rfl _ _ gb208 28 #[.slice none 0 0, .slice none 0 0, .slice none 0 0] (0, 0) _ rfl (by (with_reducible repeat (first | refine bN_ ?_ _ | refine bD_ ?_ | refine bA_ ?_ _)); refine blk_put (cs := #[.slice none 0 0, .slice none 0 0, .slice none 0 0]) ?_ 2 _ rfl; refine blk_put (cs := #[.slice none 0 0, .slice none 0 0, .slice none 0 0]) ?_ 1 _ rfl; refine blk_put (cs := #[.slice none 0 0, .slice none 0 0, .slice none 0 0]) ?_ 0 _ rfl; exact rW_ BK208.out) Try.underlying28 rfl (by kernel_rfl)) rfl ?_
  exact ⟨_, _, _, fR_, by first | exact Kd.S_nil _ _ _ _ _ | exact Kd.N_nil _ _ _ _ _ | exact Kd.V_nil _ _ _ _ _ | exact Kd.Q_nil _ _ _ _ _ | exact Kd.R_nil _ _ _ _ _, by first | exact Kd.S_nil _ _ _ _ _ | exact Kd.N_nil _ _ _ _ _ | exact Kd.V_nil _ _ _ _ _ | exact Kd.Q_nil _ _ _ _ _ | exact Kd.R_nil _ _ _ _ _, by first | exact Kd.R_nil _ _ _ _ _ | exact Kd.N_nil _ _ _ _ _ | exact Kd.V_nil _ _ _ _ _ | exact Kd.Q_nil _ _ _ _ _ | exact Kd.S_nil _ _ _ _ _, gB_ HB.out⟩
def laws_eqIntS.l0 : Nat → List Int → List Int → Int → Option (Bool)
  | 0, _, _, _ => none
  | k + 1, x0, x1, x5 => if x5 < (x0.length : Int) then (if 0 ≤ x5 then (if x5 < (x1.length : Int) then (if (rd x0 x5) = (rd x1 x5) then (laws_eqIntS.l0 k x0 x1 (wrap64 (x5 + 1))) else (some false)) else (none)) else (none)) else (some true)
def laws_eqIntS.f (k : Nat) (l0 : List Int) (l1 : List Int) : Option (Bool) := if (l0.length : Int) = (l1.length : Int) then (laws_eqIntS.l0 k l0 l1 0) else (some false)
set_option maxHeartbeats 8000000 in
set_option maxRecDepth 100000 in
theorem laws_eqIntS.calls (k : Nat) (A0 : Option Addr) (c0 : Nat) (l0 : List Int) (A1 : Option Addr) (c1 : Nat) (l1 : List Int) (r : Bool) (w : World) (hr0 : Kd.C (Kd.int .i64) w A0 l0.length l0) (hc0 : l0.length ≤ c0) (hr1 : Kd.C (Kd.int .i64) w A1 l1.length l1) (hc1 : l1.length ≤ c1) (h : laws_eqIntS.f k l0 l1 = some r) :
  Calls Try.prog 39 #[.slice A0 l0.length c0, .slice A1 l1.length c1] w fun e w' => e = .returned (.bool r) ∧ Drawn0 w w' := by
 have HR0 := aM_ hr0
 have HC0 := aM_ hc0
 clear hr0 hc0
 have HR1 := aM_ hr1
 have HC1 := aM_ hc1
 clear hr1 hc1
 have H : (if (l0.length : Int) = (l1.length : Int) then (laws_eqIntS.l0 k l0 l1 0) else (some false)) = some r := h
 clear h
 by_cases c3 : (l0.length : Int) = (l1.length : Int)
 ·rw [if_pos c3] at H
  have c3b0 : ((l0.length : Int) == (l1.length : Int)) = true := beq_iff_eq.mpr c3
  have c3b1 : ((l0.length : Int) != (l1.length : Int)) = false := bne_eq_false_iff_eq.mpr c3
  have c3b2 : (l0.length == l1.length) = true := by first | simpa using c3 | (simp at c3 ⊢; omega)
  clear c3
  have H' := aM_ H
  clear H
  go_enter Try.func39, Try.ntmps39
  go_wp2
  repeat (go_quiet (fail); try go_wp2)
  go_loopg [5] k (fun kq v5 w' => ∃ (x5_1 : Int), v5 = .int .i64 x5_1 ∧ Aside0 (laws_eqIntS.l0 kq l0 l1 x5_1 = some r) ∧ Aside0 (kq ≤ k) ∧ Drawn0 w w')
  case atStart => exact ⟨(0), (by first | rfl | (simp; done) | (simp [*]; done)), H', ⟨Nat.le_refl _⟩, by repeat (first | exact Drawn0.refl _ | apply Drawn0.step)⟩
  case round =>
   clear H'
   try clear c1
   try clear p2
   try clear c3
   try clear c3b0
   try clear c3b1
   try clear c3b2
   obtain ⟨x5_1, rfl, HA, HK1, ⟨m1, rfl⟩⟩ := hrel
   cases gk with
   | zero => exact absurd HA.out (by simp [laws_eqIntS.l0])
   | succ k1 =>
    have H := HA.out
    clear HA
    simp only [laws_eqIntS.l0] at H
    by_cases c4 : x5_1 < (l0.length : Int)
    ·rw [if_pos c4] at H
     have c4b0 : decide (x5_1 < (l0.length : Int)) = true := decide_eq_true c4
     clear c4
     by_cases c5 : 0 ≤ x5_1
     ·rw [if_pos c5] at H
      have c5b0 : decide (0 ≤ x5_1) = true := decide_eq_true c5
      clear c5
      by_cases c6 : x5_1 < (l1.length : Int)
      ·rw [if_pos c6] at H
       have c6b0 : decide (x5_1 < (l1.length : Int)) = true := decide_eq_true c6
       clear c6
       by_cases c7 : (rd l0 x5_1) = (rd l1 x5_1)
       ·rw [if_pos c7] at H
        have c7b0 : ((rd l0 x5_1) == (rd l1 x5_1)) = true := beq_iff_eq.mpr c7
        have c7b1 : ((rd l0 x5_1) != (rd l1 x5_1)) = false := bne_eq_false_iff_eq.mpr c7
        clear c7
        have H' := aM_ H
        clear H
        have p221 : 0 ≤ (x5_1 : Int) := of_decide_eq_true (by first | (with_reducible assumption) | assumption)
        have q221 : x5_1 < (l0.length : Int) := of_decide_eq_true (by first | (with_reducible assumption) | assumption)
        obtain ⟨ad221, e221, hx221_0⟩ := Kd.at_int HR0.out x5_1 p221 q221
        cases e221
        replace p221 := eq_true p221
        replace q221 := eq_true q221
        have p222 : 0 ≤ (x5_1 : Int) := of_decide_eq_true (by first | (with_reducible assumption) | assumption)
        have q222 : x5_1 < (l1.length : Int) := of_decide_eq_true (by first | (with_reducible assumption) | assumption)
        obtain ⟨ad222, e222, hx222_0⟩ := Kd.at_int HR1.out x5_1 p222 q222
        cases e222
        replace p222 := eq_true p222
        replace q222 := eq_true q222
        go_wp2
        repeat (go_quiet (fail); try go_wp2)
        go_roundg k1
        case measure => have := HK1.out; omega
        case rel => exact ⟨(wrap64 (x5_1 + 1)), (by first | rfl | (simp; done) | (simp [*]; done)), H', ⟨by have := HK1.out; omega⟩, by repeat (first | exact Drawn0.refl _ | apply Drawn0.step)⟩
       ·rw [if_neg c7] at H
        have c7b0 : ((rd l0 x5_1) == (rd l1 x5_1)) = false := beq_eq_false_iff_ne.mpr c7
        have c7b1 : ((rd l0 x5_1) != (rd l1 x5_1)) = true := bne_iff_ne.mpr c7
        obtain rfl := Option.some.inj H
        have p221 : 0 ≤ (x5_1 : Int) := of_decide_eq_true (by first | (with_reducible assumption) | assumption)
        have q221 : x5_1 < (l0.length : Int) := of_decide_eq_true (by first | (with_reducible assumption) | assumption)
        obtain ⟨ad221, e221, hx221_0⟩ := Kd.at_int HR0.out x5_1 p221 q221
        cases e221
        replace p221 := eq_true p221
        replace q221 := eq_true q221
        have p222 : 0 ≤ (x5_1 : Int) := of_decide_eq_true (by first | (with_reducible assumption) | assumption)
        have q222 : x5_1 < (l1.length : Int) := of_decide_eq_true (by first | (with_reducible assumption) | assumption)
        obtain ⟨ad222, e222, hx222_0⟩ := Kd.at_int HR1.out x5_1 p222 q222
        cases e222
        replace p222 := eq_true p222
        replace q222 := eq_true q222
        go_wp2
        repeat (go_quiet (fail); try go_wp2)
        go_ret
        exact ⟨by first | rfl | (simp; done) | (simp [*]; done), by repeat (first | exact Drawn0.refl _ | apply Drawn0.step)⟩
      ·rw [if_neg c6] at H
       exact absurd H (by simp)
     ·rw [if_neg c5] at H
      exact absurd H (by simp)
    ·rw [if_neg c4] at H
     have c4b0 : decide (x5_1 < (l0.length : Int)) = false := decide_eq_false c4
     clear c4
     obtain rfl := Option.some.inj H
     go_wp2
     repeat (go_quiet (fail); try go_wp2)
     go_ret
     exact ⟨by first | rfl | (simp; done) | (simp [*]; done), by repeat (first | exact Drawn0.refl _ | apply Drawn0.step)⟩
 ·rw [if_neg c3] at H
  have c3b0 : ((l0.length : Int) == (l1.length : Int)) = false := beq_eq_false_iff_ne.mpr c3
  have c3b1 : ((l0.length : Int) != (l1.length : Int)) = true := bne_iff_ne.mpr c3
  have c3b2 : (l0.length == l1.length) = false := by first | simpa using c3 | (simp at c3 ⊢; omega)
  obtain rfl := Option.some.inj H
  go_enter Try.func39, Try.ntmps39
  go_wp2
  repeat (go_quiet (fail); try go_wp2)
  go_ret
  exact ⟨by first | rfl | (simp; done) | (simp [*]; done), by repeat (first | exact Drawn0.refl _ | apply Drawn0.step)⟩
def laws_eqThread.f (k : Nat) (a0_0 : Int) (l0_1 : List Int) (a0_2 : Int) (a1_0 : Int) (l1_1 : List Int) (a1_2 : Int) : Option (Bool) := if a0_0 = a1_0 then ((laws_eqIntS.f k l0_1 l1_1).bind fun t225 => (if t225 = true then (if a0_2 = a1_2 then (some true) else (some false)) else (some false))) else (some false)
set_option maxHeartbeats 8000000 in
set_option maxRecDepth 100000 in
theorem laws_eqThread.calls (k : Nat) (a0_0 : Int) (A0_1 : Option Addr) (c0_1 : Nat) (l0_1 : List Int) (a0_2 : Int) (a1_0 : Int) (A1_1 : Option Addr) (c1_1 : Nat) (l1_1 : List Int) (a1_2 : Int) (r : Bool) (w : World) (hr0_1 : Kd.C (Kd.int .i64) w A0_1 l0_1.length l0_1) (hc0_1 : l0_1.length ≤ c0_1) (hr1_1 : Kd.C (Kd.int .i64) w A1_1 l1_1.length l1_1) (hc1_1 : l1_1.length ≤ c1_1) (h : laws_eqThread.f k a0_0 l0_1 a0_2 a1_0 l1_1 a1_2 = some r) :
  Calls Try.prog 127 #[.agg #[.int .i64 a0_0, .slice A0_1 l0_1.length c0_1, .int .i64 a0_2], .agg #[.int .i64 a1_0, .slice A1_1 l1_1.length c1_1, .int .i64 a1_2]] w fun e w' => e = .returned (.bool r) ∧ Below w.heap.size w w' := by
 have hu107 := Try.underlying107
 have HR0_1 := aM_ hr0_1
 have HC0_1 := aM_ hc0_1
 clear hr0_1 hc0_1
 have HR1_1 := aM_ hr1_1
 have HC1_1 := aM_ hc1_1
 clear hr1_1 hc1_1
 have HB := aM_ (Below.refl w.heap.size w)
 have H : (if a0_0 = a1_0 then ((laws_eqIntS.f k l0_1 l1_1).bind fun t225 => (if t225 = true then (if a0_2 = a1_2 then (some true) else (some false)) else (some false))) else (some false)) = some r := h
 clear h
 by_cases c3 : a0_0 = a1_0
 ·rw [if_pos c3] at H
  have c3b0 : (a0_0 == a1_0) = true := beq_iff_eq.mpr c3
  have c3b1 : (a0_0 != a1_0) = false := bne_eq_false_iff_eq.mpr c3
  clear c3
  replace H := Option.bind_eq_some_iff.mp H
  obtain ⟨t225, A40, H⟩ := H
  replace H : (if t225 = true then (if a0_2 = a1_2 then (some true) else (some false)) else (some false)) = some r := H
  have A4 := aM_ A40
  clear A40
  by_cases c5 : t225 = true
  ·subst c5
   have H1 : (if a0_2 = a1_2 then (some true) else (some false)) = some r := by rw [if_pos rfl] at H; exact H
   clear H
   have H := H1
   clear H1
   by_cases c6 : a0_2 = a1_2
   ·rw [if_pos c6] at H
    have c6b0 : (a0_2 == a1_2) = true := beq_iff_eq.mpr c6
    have c6b1 : (a0_2 != a1_2) = false := bne_eq_false_iff_eq.mpr c6
    clear c6
    obtain rfl := Option.some.inj H
    go_enter Try.func127, Try.ntmps127
    go_wp2_with (first | ((with_reducible refine gate_dst (N := 2) rfl ?_); refine bX_ 2 (cs := #[.int .i64 a0_0, .slice A0_1 l0_1.length c0_1, .int .i64 a0_2]) (t := 107) ?_; intro gb223 hg w7 hbox hb; have n0 := aM_ (sT_ HB.out hb); have n1 := aM_ (hbox); have n2 := aM_ (sZ_ hg HB.out); have n3 := aM_ (sZ_ hg HB.out); clear HB; have HB := n0; have BK223 := n1; have GW223 := n2; have GE223 := n3; clear n0 n1 n2 n3; clear hb hbox hg) | ((with_reducible refine gate_dst (N := 3) rfl ?_); refine bX_ 3 (cs := #[.int .i64 a1_0, .slice A1_1 l1_1.length c1_1, .int .i64 a1_2]) (t := 107) ?_; intro gb224 hg w8 hbox hb; have n0 := aM_ (nB_ BK223.out hb); have n1 := aM_ (sT_ HB.out hb); have n2 := aM_ (hbox); have n3 := aM_ (sZ_ hg HB.out); have n4 := aM_ (sZ_ hg HB.out); have n5 := aM_ (nL_ hg BK223.out); have n6 := aM_ (nG_ hg BK223.out); clear BK223; clear HB; have BK223 := n0; have HB := n1; have BK224 := n2; have GW224 := n3; have GE224 := n4; have NB223_224 := n5; have NB224_223 := n6; clear n0 n1 n2 n3 n4 n5 n6; clear hb hbox hg; have hnb9 := NB223_224.out; have hnc9 := NB224_223.out; obtain ⟨hcz10_0, hcz10_1, hcz10_2, hfz10_0, hfz10_1, hfz10_2⟩ := bR3_ BK223.out; obtain ⟨hcz11_0, hcz11_1, hcz11_2, hfz11_0, hfz11_1, hfz11_2⟩ := bR3_ BK224.out) | ((with_reducible refine gate_callee (f := 39) rfl ?_); refine gL_ (some 14) Try.func39 #[.slice A0_1 l0_1.length c0_1, .slice A1_1 l1_1.length c1_1] ?_; (with_reducible refine (laws_eqIntS.calls k _ _ l0_1 _ _ l1_1 true _ ?side1 ?side2 ?side3 ?side4 A4.out).mono ?_); (case side1 => exact cS_ (Kd.C_below HR0_1.out HB.out)); (case side2 => exact HC0_1.out); (case side3 => exact cS_ (Kd.C_below HR1_1.out HB.out)); (case side4 => exact HC1_1.out); rintro e w' ⟨rfl, ⟨nd, rfl⟩⟩; refine ⟨_, rfl, ?_⟩))
    go_ret
    exact fI_ HB.out
   ·rw [if_neg c6] at H
    have c6b0 : (a0_2 == a1_2) = false := beq_eq_false_iff_ne.mpr c6
    have c6b1 : (a0_2 != a1_2) = true := bne_iff_ne.mpr c6
    obtain rfl := Option.some.inj H
    go_enter Try.func127, Try.ntmps127
    go_wp2_with (first | ((with_reducible refine gate_dst (N := 2) rfl ?_); refine bX_ 2 (cs := #[.int .i64 a0_0, .slice A0_1 l0_1.length c0_1, .int .i64 a0_2]) (t := 107) ?_; intro gb223 hg w12 hbox hb; have n0 := aM_ (sT_ HB.out hb); have n1 := aM_ (hbox); have n2 := aM_ (sZ_ hg HB.out); have n3 := aM_ (sZ_ hg HB.out); clear HB; have HB := n0; have BK223 := n1; have GW223 := n2; have GE223 := n3; clear n0 n1 n2 n3; clear hb hbox hg) | ((with_reducible refine gate_dst (N := 3) rfl ?_); refine bX_ 3 (cs := #[.int .i64 a1_0, .slice A1_1 l1_1.length c1_1, .int .i64 a1_2]) (t := 107) ?_; intro gb224 hg w13 hbox hb; have n0 := aM_ (nB_ BK223.out hb); have n1 := aM_ (sT_ HB.out hb); have n2 := aM_ (hbox); have n3 := aM_ (sZ_ hg HB.out); have n4 := aM_ (sZ_ hg HB.out); have n5 := aM_ (nL_ hg BK223.out); have n6 := aM_ (nG_ hg BK223.out); clear BK223; clear HB; have BK223 := n0; have HB := n1; have BK224 := n2; have GW224 := n3; have GE224 := n4; have NB223_224 := n5; have NB224_223 := n6; clear n0 n1 n2 n3 n4 n5 n6; clear hb hbox hg; have hnb14 := NB223_224.out; have hnc14 := NB224_223.out; obtain ⟨hcz15_0, hcz15_1, hcz15_2, hfz15_0, hfz15_1, hfz15_2⟩ := bR3_ BK223.out; obtain ⟨hcz16_0, hcz16_1, hcz16_2, hfz16_0, hfz16_1, hfz16_2⟩ := bR3_ BK224.out) | ((with_reducible refine gate_callee (f := 39) rfl ?_); refine gL_ (some 14) Try.func39 #[.slice A0_1 l0_1.length c0_1, .slice A1_1 l1_1.length c1_1] ?_; (with_reducible refine (laws_eqIntS.calls k _ _ l0_1 _ _ l1_1 true _ ?side1 ?side2 ?side3 ?side4 A4.out).mono ?_); (case side1 => exact cS_ (Kd.C_below HR0_1.out HB.out)); (case side2 => exact HC0_1.out); (case side3 => exact cS_ (Kd.C_below HR1_1.out HB.out)); (case side4 => exact HC1_1.out); rintro e w' ⟨rfl, ⟨nd, rfl⟩⟩; refine ⟨_, rfl, ?_⟩))
    go_ret
    exact fI_ HB.out
  ·replace c5 := Bool.eq_false_iff.mpr c5
   subst c5
   have H1 : (some false) = some r := by rw [if_neg (show ¬ (false = true) by decide)] at H; exact H
   clear H
   have H := H1
   clear H1
   obtain rfl := Option.some.inj H
   go_enter Try.func127, Try.ntmps127
   go_wp2_with (first | ((with_reducible refine gate_dst (N := 2) rfl ?_); refine bX_ 2 (cs := #[.int .i64 a0_0, .slice A0_1 l0_1.length c0_1, .int .i64 a0_2]) (t := 107) ?_; intro gb223 hg w17 hbox hb; have n0 := aM_ (sT_ HB.out hb); have n1 := aM_ (hbox); have n2 := aM_ (sZ_ hg HB.out); have n3 := aM_ (sZ_ hg HB.out); clear HB; have HB := n0; have BK223 := n1; have GW223 := n2; have GE223 := n3; clear n0 n1 n2 n3; clear hb hbox hg) | ((with_reducible refine gate_dst (N := 3) rfl ?_); refine bX_ 3 (cs := #[.int .i64 a1_0, .slice A1_1 l1_1.length c1_1, .int .i64 a1_2]) (t := 107) ?_; intro gb224 hg w18 hbox hb; have n0 := aM_ (nB_ BK223.out hb); have n1 := aM_ (sT_ HB.out hb); have n2 := aM_ (hbox); have n3 := aM_ (sZ_ hg HB.out); have n4 := aM_ (sZ_ hg HB.out); have n5 := aM_ (nL_ hg BK223.out); have n6 := aM_ (nG_ hg BK223.out); clear BK223; clear HB; have BK223 := n0; have HB := n1; have BK224 := n2; have GW224 := n3; have GE224 := n4; have NB223_224 := n5; have NB224_223 := n6; clear n0 n1 n2 n3 n4 n5 n6; clear hb hbox hg; have hnb19 := NB223_224.out; have hnc19 := NB224_223.out; obtain ⟨hcz20_0, hcz20_1, hcz20_2, hfz20_0, hfz20_1, hfz20_2⟩ := bR3_ BK223.out; obtain ⟨hcz21_0, hcz21_1, hcz21_2, hfz21_0, hfz21_1, hfz21_2⟩ := bR3_ BK224.out) | ((with_reducible refine gate_callee (f := 39) rfl ?_); refine gL_ (some 14) Try.func39 #[.slice A0_1 l0_1.length c0_1, .slice A1_1 l1_1.length c1_1] ?_; (with_reducible refine (laws_eqIntS.calls k _ _ l0_1 _ _ l1_1 false _ ?side1 ?side2 ?side3 ?side4 A4.out).mono ?_); (case side1 => exact cS_ (Kd.C_below HR0_1.out HB.out)); (case side2 => exact HC0_1.out); (case side3 => exact cS_ (Kd.C_below HR1_1.out HB.out)); (case side4 => exact HC1_1.out); rintro e w' ⟨rfl, ⟨nd, rfl⟩⟩; refine ⟨_, rfl, ?_⟩))
   go_ret
   exact fI_ HB.out
 ·rw [if_neg c3] at H
  have c3b0 : (a0_0 == a1_0) = false := beq_eq_false_iff_ne.mpr c3
  have c3b1 : (a0_0 != a1_0) = true := bne_iff_ne.mpr c3
  obtain rfl := Option.some.inj H
  go_enter Try.func127, Try.ntmps127
  go_wp2_with (first | ((with_reducible refine gate_dst (N := 2) rfl ?_); refine bX_ 2 (cs := #[.int .i64 a0_0, .slice A0_1 l0_1.length c0_1, .int .i64 a0_2]) (t := 107) ?_; intro gb223 hg w22 hbox hb; have n0 := aM_ (sT_ HB.out hb); have n1 := aM_ (hbox); have n2 := aM_ (sZ_ hg HB.out); have n3 := aM_ (sZ_ hg HB.out); clear HB; have HB := n0; have BK223 := n1; have GW223 := n2; have GE223 := n3; clear n0 n1 n2 n3; clear hb hbox hg) | ((with_reducible refine gate_dst (N := 3) rfl ?_); refine bX_ 3 (cs := #[.int .i64 a1_0, .slice A1_1 l1_1.length c1_1, .int .i64 a1_2]) (t := 107) ?_; intro gb224 hg w23 hbox hb; have n0 := aM_ (nB_ BK223.out hb); have n1 := aM_ (sT_ HB.out hb); have n2 := aM_ (hbox); have n3 := aM_ (sZ_ hg HB.out); have n4 := aM_ (sZ_ hg HB.out); have n5 := aM_ (nL_ hg BK223.out); have n6 := aM_ (nG_ hg BK223.out); clear BK223; clear HB; have BK223 := n0; have HB := n1; have BK224 := n2; have GW224 := n3; have GE224 := n4; have NB223_224 := n5; have NB224_223 := n6; clear n0 n1 n2 n3 n4 n5 n6; clear hb hbox hg; have hnb24 := NB223_224.out; have hnc24 := NB224_223.out; obtain ⟨hcz25_0, hcz25_1, hcz25_2, hfz25_0, hfz25_1, hfz25_2⟩ := bR3_ BK223.out; obtain ⟨hcz26_0, hcz26_1, hcz26_2, hfz26_0, hfz26_1, hfz26_2⟩ := bR3_ BK224.out))
  go_ret
  exact fI_ HB.out
end Go.Proofs.Ytobachfngmpeiaa.PFnExactSourceNew
