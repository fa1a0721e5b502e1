/- A part of the proof that the law FnExactSourceNew holds for every input: the words, functions and walks that its row needs, without a condition of their own. -/
import Derived.Test.YtobachfngmpeiaaZFnExactSourceNewa2
import Derived.Test.YtobachfngmpeiaaZFnExactSourceNewa4
import Derived.Test.YtobachfngmpeiaaZFnExactSourceNews
namespace Go.Proofs.Ytobachfngmpeiaa.PFnExactSourceNew
open Go.RowKit Go.Proofs.YtobachfngmpeiaaW.PrintWords Go.Proofs.YtobachfngmpeiaaW.PrintLast Go.Proofs.YtobachfngmpeiaaW.PrintMore
attribute [local go_sem] max2_int min2_int max_two min_two max_three min_three max_four min_four   -- for this text's walks alone
set_option linter.unusedVariables false
set_option linter.unusedSimpArgs false
mutual
def spec_SourceNew.l0 : Nat → Int → List Int → List (List (S192)) → List (S107) → Option ((List (S107)) × (List (S94)) × (List (S35)) × Bool)
  | 0, _, _, _, _ => none
  | k + 1, x5, x126000, x126001, x129000 => if x5 < (x126001.length : Int) then (if 4 ≤ 35184372088832 then (if x129000.length < 3518437208883 then (spec_SourceNew.l0 k (wrap64 (x5 + 1)) x126000 x126001 (x129000 ++ [(⟨0, (List.replicate 4 0), 0⟩ : S107)])) else (none)) else (none)) else (spec_SourceNew.l1 k 0 x126000 x126001 x129000 ([] : List (S94)))
def spec_SourceNew.l1 : Nat → Int → List Int → List (List (S192)) → List (S107) → List (S94) → Option ((List (S107)) × (List (S94)) × (List (S35)) × Bool)
  | 0, _, _, _, _, _ => none
  | k + 1, x6, x126000, x126001, x129000, x129001 => if x6 < (x126000.length : Int) then (if 0 ≤ x6 then (if x129001.length < 3518437208883 then (spec_SourceNew.l1 k (wrap64 (x6 + 1)) x126000 x126001 x129000 (x129001 ++ [(⟨rd x126000 x6, ([] : List Int), false⟩ : S94)])) else (none)) else (none)) else (some (x129000, x129001, ([] : List (S35)), true))
end
def spec_SourceNew.f (k : Nat) (l0_0 : List Int) (l0_1 : List (List (S192))) : Option ((List (S107)) × (List (S94)) × (List (S35)) × Bool) := (spec_ProgOk.f k l0_0 l0_1).bind fun t127 => (if t127 = true then (spec_SourceNew.l0 k 0 l0_0 l0_1 ([] : List (S107))) else (some (([] : List (S107)), ([] : List (S94)), ([] : List (S35)), false)))
def spec_SourceNew.T7 : Bool × List (List Nat × List Nat) := (true, [([], []), ([0], [0]), ([], []), ([2], [2]), ([3], [3]), ([1, 4], [1, 4]), ([0, 1, 2, 3, 4, 5], []), ([6, 5, 5, 0, 1, 2, 3, 4, 5], [5, 6])])
def spec_SourceNew.B7 : List Nat := [0, 1, 0, 4, 12, 31, 63, 127]
theorem spec_SourceNew.tab7 : rtab .any (opsOf Try.f16 7) = spec_SourceNew.T7 := by kernel_rfl
theorem spec_SourceNew.bits7 : waitsOk spec_SourceNew.T7.2 spec_SourceNew.B7 = true := by kernel_rfl
def spec_SourceNew.T11 : Bool × List (List Nat × List Nat) := (true, [([], []), ([0], [0]), ([], []), ([2], [2]), ([], []), ([3, 4], [3, 4]), ([5], [5]), ([6], [6]), ([7], [7]), ([1, 8], [1, 8]), ([0, 1, 2, 3, 4, 5, 6, 7, 8, 9], []), ([10, 9, 9, 0, 1, 2, 3, 4, 5, 6, 7, 8, 9], [9, 10])])
def spec_SourceNew.B11 : List Nat := [0, 1, 0, 4, 0, 28, 60, 124, 252, 511, 1023, 2047]
theorem spec_SourceNew.tab11 : rtab .any (opsOf Try.f16 11) = spec_SourceNew.T11 := by kernel_rfl
theorem spec_SourceNew.bits11 : waitsOk spec_SourceNew.T11.2 spec_SourceNew.B11 = true := by kernel_rfl
set_option maxHeartbeats 8000000 in
set_option maxRecDepth 100000 in
theorem spec_SourceNew.calls (k : Nat) (A0_0 : Option Addr) (c0_0 : Nat) (l0_0 : List Int) (A0_1 : Option Addr) (c0_1 : Nat) (l0_1 : List (List (S192))) (r1 : List (S107)) (r2 : List (S94)) (r3 : List (S35)) (r4 : Bool) (w : World) (hr0_0 : Kd.C (Kd.int .i64) w A0_0 l0_0.length l0_0) (hc0_0 : l0_0.length ≤ c0_0) (hr0_1 : Kd.C (Kd.slice 192 k192) w A0_1 l0_1.length l0_1) (hc0_1 : l0_1.length ≤ c0_1) (h : spec_SourceNew.f k l0_0 l0_1 = some (r1, r2, r3, r4)) :
  Calls Try.prog 16 #[.agg #[.slice A0_0 l0_0.length c0_0, .slice A0_1 l0_1.length c0_1]] w fun e w' => ∃ v0_ v1_ v2_ : Value, e = .returned (.tuple #[.agg #[v0_, v1_, v2_], .bool r4]) ∧ Kd.S k107 107 w' w.heap.size (fun _ => True) v0_ r1 ∧ Kd.S k94 94 w' w.heap.size (fun _ => True) v1_ r2 ∧ Kd.R k35 35 w' w.heap.size (fun _ => True) v2_ r3 ∧ Below w.heap.size w w' := by
 have hu44 := Try.underlying44
 have hu28 := Try.underlying28
 have hu107 := Try.underlying107
 have hu94 := Try.underlying94
 have HR0_0 := aM_ hr0_0
 have HC0_0 := aM_ hc0_0
 clear hr0_0 hc0_0
 have HR0_1 := aM_ hr0_1
 have HC0_1 := aM_ hc0_1
 clear hr0_1 hc0_1
 have HB := aM_ (Below.refl w.heap.size w)
 have H : ((spec_ProgOk.f k l0_0 l0_1).bind fun t127 => (if t127 = true then (spec_SourceNew.l0 k 0 l0_0 l0_1 ([] : List (S107))) else (some (([] : List (S107)), ([] : List (S94)), ([] : List (S35)), false)))) = some (r1, r2, r3, r4) := h
 clear h
 replace H := Option.bind_eq_some_iff.mp H
 obtain ⟨t127, A20, H⟩ := H
 replace H : (if t127 = true then (spec_SourceNew.l0 k 0 l0_0 l0_1 ([] : List (S107))) else (some (([] : List (S107)), ([] : List (S94)), ([] : List (S35)), false))) = some (r1, r2, r3, r4) := H
 have A2 := aM_ A20
 clear A20
 by_cases c3 : t127 = true
 ·subst c3
  have H1 : (spec_SourceNew.l0 k 0 l0_0 l0_1 ([] : List (S107))) = some (r1, r2, r3, r4) := by rw [if_pos rfl] at H; exact H
  clear H
  have H := H1
  clear H1
  have H' := aM_ H
  clear H
  go_enter Try.func16, Try.ntmps16
  go_wp2_with (first | ((with_reducible refine gate_dst (N := 1) rfl ?_); refine bX_ 1 (cs := #[.slice A0_0 l0_0.length c0_0, .slice A0_1 l0_1.length c0_1]) (t := 44) ?_; intro gb125 hg w4 hbox hb; have n0 := aM_ (sT_ HB.out hb); have n1 := aM_ (hbox); have n2 := aM_ (sZ_ hg HB.out); have n3 := aM_ (sZ_ hg HB.out); clear HB; have HB := n0; have BK125 := n1; have GW125 := n2; have GE125 := n3; clear n0 n1 n2 n3; clear hb hbox hg) | ((with_reducible refine gate_dst (N := 2) rfl ?_); refine bX_ 2 (cs := #[.slice none 0 0, .slice none 0 0, .slice none 0 0]) (t := 28) ?_; intro gb126 hg w5 hbox hb; have n0 := aM_ (nB_ BK125.out hb); have n1 := aM_ (sT_ HB.out hb); have n2 := aM_ (hbox); have n3 := aM_ (sZ_ hg HB.out); have n4 := aM_ (sZ_ hg HB.out); have n5 := aM_ (nL_ hg BK125.out); have n6 := aM_ (nG_ hg BK125.out); clear BK125; clear HB; have BK125 := n0; have HB := n1; have BK126 := n2; have GW126 := n3; have GE126 := n4; have NB125_126 := n5; have NB126_125 := n6; clear n0 n1 n2 n3 n4 n5 n6; clear hb hbox hg; have hnb6 := NB125_126.out; have hnc6 := NB126_125.out; obtain ⟨hcz7_0, hcz7_1, hfz7_0, hfz7_1⟩ := bR2_ BK125.out) | ((with_reducible refine gate_callee (f := 60) rfl ?_); refine gL_ (some 8) Try.func60 #[.agg #[.slice A0_0 l0_0.length c0_0, .slice A0_1 l0_1.length c0_1]] ?_; (with_reducible refine (spec_ProgOk.calls k _ _ l0_0 _ _ l0_1 true _ ?side1 ?side2 ?side3 ?side4 A2.out).mono ?_); (case side1 => exact cS_ (Kd.C_below HR0_0.out HB.out)); (case side2 => exact HC0_0.out); (case side3 => exact cS_ (Kd.C_below HR0_1.out HB.out)); (case side4 => exact HC0_1.out); rintro e w8 ⟨rfl, hb⟩; refine ⟨_, rfl, ?_⟩; have n0 := aM_ (nB_ BK125.out hb); have n1 := aM_ (nB_ BK126.out hb); have n2 := aM_ (sT_ HB.out hb); clear BK125; clear BK126; clear HB; have BK125 := n0; have BK126 := n1; have HB := n2; clear n0 n1 n2) | ((with_reducible refine gate_dst (N := 4) rfl ?_); refine bX_ 4 (cs := #[.slice none 0 0, .slice none 0 0, .slice none 0 0]) (t := 28) ?_; intro gb128 hg w9 hbox hb; have n0 := aM_ (nB_ BK125.out hb); have n1 := aM_ (nB_ BK126.out hb); have n2 := aM_ (sT_ HB.out hb); have n3 := aM_ (hbox); have n4 := aM_ (sZ_ hg HB.out); have n5 := aM_ (sZ_ hg HB.out); have n6 := aM_ (nL_ hg BK125.out); have n7 := aM_ (nG_ hg BK125.out); have n8 := aM_ (nL_ hg BK126.out); have n9 := aM_ (nG_ hg BK126.out); clear BK125; clear BK126; clear HB; have BK125 := n0; have BK126 := n1; have HB := n2; have BK128 := n3; have GW128 := n4; have GE128 := n5; have NB125_128 := n6; have NB128_125 := n7; have NB126_128 := n8; have NB128_126 := n9; clear n0 n1 n2 n3 n4 n5 n6 n7 n8 n9; clear hb hbox hg; have hnb10 := NB128_125.out; have hnc10 := NB125_128.out; have hnb11 := NB128_126.out; have hnc11 := NB126_128.out; obtain ⟨hcz12_0, hcz12_1, hcz12_2, hfz12_0, hfz12_1, hfz12_2⟩ := bR3_ BK128.out))
  go_loopg [5] k (fun kq v5 w' => ∃ (x5_1 : Int) (x1290_1 : List (S107)) (u1290 : Value), v5 = .int .i64 x5_1 ∧ Aside0 (spec_SourceNew.l0 kq x5_1 l0_0 l0_1 x1290_1 = some (r1, r2, r3, r4)) ∧ Aside0 (kq ≤ k) ∧ Aside0 (Kd.S k107 107 w' w.heap.size (fun _ => True) u1290 x1290_1) ∧ Aside0 (w'.heap[gb125]? = some (.cells #[(.slice A0_0 l0_0.length c0_0), (.slice A0_1 l0_1.length c0_1)] 44 (0, 0))) ∧ Aside0 (w'.heap[gb126]? = some (.cells #[(.slice none 0 0), (.slice none 0 0), (.slice none 0 0)] 28 (0, 0))) ∧ Aside0 (w'.heap[gb128]? = some (.cells #[u1290, (.slice none 0 0), (.slice none 0 0)] 28 (0, 0))) ∧ Aside0 (Below w.heap.size w w'))
  case atStart => exact ⟨(0), (([] : List (S107))), (.slice none 0 0), (by first | rfl | (simp; done) | (simp [*]; done)), H', ⟨Nat.le_refl _⟩, ⟨by first | exact Kd.S_nil _ _ _ _ _ | exact Kd.N_nil _ _ _ _ _ | exact Kd.V_nil _ _ _ _ _ | exact Kd.Q_nil _ _ _ _ _ | exact Kd.R_nil _ _ _ _ _⟩, ⟨by (with_reducible repeat (first | refine bN_ ?_ _ | refine bD_ ?_ | refine bA_ ?_ _)); refine blk_far ?_ NB125_128.out _; (with_reducible repeat (first | refine bN_ ?_ _ | refine bD_ ?_ | refine bA_ ?_ _)); refine blk_far ?_ NB125_128.out _; (with_reducible repeat (first | refine bN_ ?_ _ | refine bD_ ?_ | refine bA_ ?_ _)); refine blk_far ?_ NB125_128.out _; (with_reducible repeat (first | refine bN_ ?_ _ | refine bD_ ?_ | refine bA_ ?_ _)); exact BK125.out⟩, ⟨by (with_reducible repeat (first | refine bN_ ?_ _ | refine bD_ ?_ | refine bA_ ?_ _)); refine blk_far ?_ NB126_128.out _; (with_reducible repeat (first | refine bN_ ?_ _ | refine bD_ ?_ | refine bA_ ?_ _)); refine blk_far ?_ NB126_128.out _; (with_reducible repeat (first | refine bN_ ?_ _ | refine bD_ ?_ | refine bA_ ?_ _)); refine blk_far ?_ NB126_128.out _; (with_reducible repeat (first | refine bN_ ?_ _ | refine bD_ ?_ | refine bA_ ?_ _)); exact BK126.out⟩, ⟨by (with_reducible repeat (first | refine bN_ ?_ _ | refine bD_ ?_ | refine bA_ ?_ _)); refine blk_put (cs := #[.slice none 0 0, .slice none 0 0, .slice none 0 0]) ?_ 2 _ rfl; refine blk_put (cs := #[.slice none 0 0, .slice none 0 0, .slice none 0 0]) ?_ 1 _ rfl; refine blk_put (cs := #[.slice none 0 0, .slice none 0 0, .slice none 0 0]) ?_ 0 _ rfl; (with_reducible repeat (first | refine bN_ ?_ _ | refine bD_ ?_ | refine bA_ ?_ _)); exact BK128.out⟩, ⟨gW_ HB.out⟩⟩
  case round =>
   clear H'
   try clear c1
   try clear p2
   try clear c3
   try clear c6
   try clear c10
   try clear c11
   try clear hcz12_0 hcz12_1 hcz12_2 hfz12_0 hfz12_1 hfz12_2
   try clear hcz7_0 hcz7_1 hfz7_0 hfz7_1
   obtain ⟨x5_1, x1290_1, u1290, rfl, HA, HK1, HO_129000, BK125, BK126, BK128, HB⟩ := hrel
   cases gk with
   | zero => exact absurd HA.out (by simp [spec_SourceNew.l0])
   | succ k1 =>
    have H := HA.out
    clear HA
    simp only [spec_SourceNew.l0] at H
    by_cases c13 : x5_1 < (l0_1.length : Int)
    ·rw [if_pos c13] at H
     have c13b0 : decide (x5_1 < (l0_1.length : Int)) = true := decide_eq_true c13
     clear c13
     by_cases c14 : 4 ≤ 35184372088832
     ·rw [if_pos c14] at H
      have c14b0 := eq_true c14
      have c14b1 : decide (4 ≤ 35184372088832) = true := decide_eq_true c14
      clear c14
      obtain ⟨y129, hy129⟩ : ∃ y_ : List Int, y_ = (List.replicate 4 0) := ⟨_, rfl⟩
      replace H : (if x1290_1.length < 3518437208883 then (spec_SourceNew.l0 k1 (wrap64 (x5_1 + 1)) l0_0 l0_1 (x1290_1 ++ [(⟨0, y129, 0⟩ : S107)])) else (none)) = some (r1, r2, r3, r4) := by first | (rw [hy129]; with_reducible exact H) | (have H2_ := (Option.bind_some _ _).symm.trans H; rw [hy129]; with_reducible exact H2_) | (have H2_ := (Option.bind_some _ _).symm.trans H; with_reducible exact H2_) | with_reducible exact H | (rw [hy129]; exact H) | exact H
      have Ny129 := aM_ hy129
      clear hy129
      by_cases c15 : x1290_1.length < 3518437208883
      ·rw [if_pos c15] at H
       have LMc15 := aM_ c15
       clear c15
       obtain ⟨y132, hy132⟩ : ∃ y_ : List (S107), y_ = (x1290_1 ++ [(⟨0, y129, 0⟩ : S107)]) := ⟨_, rfl⟩
       replace H : (spec_SourceNew.l0 k1 (wrap64 (x5_1 + 1)) l0_0 l0_1 y132) = some (r1, r2, r3, r4) := by first | (rw [hy132]; with_reducible exact H) | (have H2_ := (Option.bind_some _ _).symm.trans H; rw [hy132]; with_reducible exact H2_) | (have H2_ := (Option.bind_some _ _).symm.trans H; with_reducible exact H2_) | with_reducible exact H | (rw [hy132]; exact H) | exact H
       have Ny132 := aM_ hy132
       clear hy132
       have H' := aM_ H
       clear H
       have hnb16 := NB125_126.out
       have hnc16 := NB126_125.out
       have hnb17 := NB125_128.out
       have hnc17 := NB128_125.out
       obtain ⟨hcz18_0, hcz18_1, hfz18_0, hfz18_1⟩ := bR2_ BK125.out
       try go_wp2
       have n0 := aM_ (Kd.S_drew HO_129000.out)
       have n1 := aM_ (blk_drew BK125.out)
       have n2 := aM_ (blk_drew BK126.out)
       have n3 := aM_ (blk_drew BK128.out)
       have n4 := aM_ (below_drew1 HB.out)
       clear HO_129000
       clear BK125
       clear BK126
       clear BK128
       clear HB
       have HO_129000 := n0
       have BK125 := n1
       have BK126 := n2
       have BK128 := n3
       have HB := n4
       clear n0 n1 n2 n3 n4
       refine start_ (n := 8) (S := fun w' => w'.cell? ⟨gb128, 0, none⟩ = some (u1290) ∧ w'.cell? ⟨gb128, 1, none⟩ = some (.slice none 0 0) ∧ w'.cell? ⟨gb128, 2, none⟩ = some (.slice none 0 0)) (ds := [7]) #[false, false, false, false, false, false, false, false] (by kernel_rfl) rfl rfl (bC3_ BK128.out) (fun hHeld => ?_); refine with_tabW spec_SourceNew.tab7 spec_SourceNew.bits7 (fun HT_ HW_ => ?_)
       generalize wr.drew = w19 at HO_129000 BK125 BK126 BK128 HB hHeld ⊢
       refine pU_ 0 (some 19) (mk_ 8 1) ?_
       refine tK3_ 1 (some 20) (mk_ 8 3) ?_
       refine oN_ 2 (some 21) (mk_ 8 7) (fun K hK => ?_)
       refine Kd.R_make_step (Kd.int .i64) _ 3 (by rfl) (N := 21) rfl 31 _ _ rfl 4 rfl rfl Try.underlying31 (.int .i64 0) 8 info3 rfl (by decide) (by omega) 0 (ok := fun _ => True) (okp := fun _ => True) rfl (fun _ hk => hk) trivial (by omega) (by omega) (Below.refl _ _) (Nat.le_refl _) ?_
       intro v130 w20 ho21 hb hg_ hnew_
       clear hg_ hnew_
       (first | rw [← Ny129.out] at ho21 | (simp only [Int.reduceToNat] at ho21; rw [← Ny129.out] at ho21))
       have n0 := aM_ (Kd.S_elder' (by (with_reducible repeat (first | apply Kd.S_alloc | apply Kd.S_drewN | apply Kd.S_drew)); exact HO_129000.out) (Kd.R_base ho21) hb)
       have n1 := aM_ (Kd.R_lower ho21 (below_size (gB_ HB.out)))
       have n2 := aM_ (nB_ BK125.out hb)
       have n3 := aM_ (nB_ BK126.out hb)
       have n4 := aM_ (nB_ BK128.out hb)
       have n5 := aM_ (sT_ HB.out hb)
       clear HO_129000
       clear BK125
       clear BK126
       clear BK128
       clear HB
       have HO_129000 := n0
       have HO131 := n1
       have BK125 := n2
       have BK126 := n3
       have BK128 := n4
       have HB := n5
       clear n0 n1 n2 n3 n4 n5
       clear hb ho21
       obtain ⟨Ao22, co22, eo22⟩ := Kd.R_slice HO131.out
       (first | subst eo22 | (injection eo22 with f1_ f2_ f3_; have f4_ := f1_.symm; have f5_ := f3_.symm; clear f1_ f2_ f3_; subst f4_; subst f5_))
       refine hK.out _ _ (bC3_ BK128.out) (fun hHeld => ?_)
       clear hK K
       refine norm_ (a' := ?_) ?_ ?_
       rotate_left
       ·show Act.put _ (some 21) _ = _
        simp only [pt_, pn_, sI_, s0_, s1_, i64_w, i32_w]
        rfl
       refine pU_ 3 (some 22) (mk_ 8 15) ?_
       refine oN_ 4 (some 23) (mk_ 8 31) (fun K hK => ?_)
       refine value_ (w1 := ?_) (v := ?_) (by rfl) rfl ?_ ?_
       rotate_left 2
       ·go_simp
        constructor
        ·rfl
        ·rfl
       refine hK.out _ _ ⟨(blk_cell (blk_alloc BK128.out _) 0).trans rfl, (blk_cell (blk_alloc BK128.out _) 1).trans rfl, (blk_cell (blk_alloc BK128.out _) 2).trans rfl⟩ (fun hHeld => ?_)
       clear hK K
       refine norm_ (a' := ?_) ?_ ?_
       rotate_left
       ·show Act.put _ (some 23) _ = _
        simp only [pt_, pn_, sI_, s0_, s1_, i64_w, i32_w]
        rfl
       refine oN_ 5 (some 24) (mk_ 8 63) (fun K hK => ?_)
       refine Kd.S_append_step k107 (w0 := w) w.heap.size (by rfl) (.tmp 20) (.tmp 23) 24 107 (.agg #[(.int .i64 0), (.slice none 0 0), (.int .i64 0)]) 40 rfl Try.underlying24 info107 rfl (by decide) (by omega) u1290 x1290_1 (⟨0, y129, 0⟩ : S107) [.int .i64 0, .slice Ao22 y129.length co22, .int .i64 0] (fun _ => True) (fun k_ => some k_ = (.slice Ao22 y129.length co22 : Value).ownBlock) rfl rfl ?aP (fun k_ hk_ => ((Kd.R_mono (ok' := fun k_ => ((fun _ => True)) k_ ∧ some k_ ≠ (u1290 : Value).ownBlock) (Kd.R_apart' (HO131.out) (Kd.S_typed HO_129000.out) (by decide)) (fun k_ hk => ⟨trivial, hk.2⟩))).1 k_ hk_.symm) ?aF ?aO ?aB ?aS ?aL ?_
       (case aP => exact k107_mkM _ _ _ (⟨0, y129, 0⟩ : S107) (Kd.R_mono (Kd.R_tight rfl (Kd.R_mono (ok' := fun k_ => ((fun _ => True)) k_ ∧ some k_ ≠ (u1290 : Value).ownBlock) (Kd.R_apart' (HO131.out) (Kd.S_typed HO_129000.out) (by decide)) (fun k_ hk => ⟨trivial, hk.2⟩))) (fun _ h_ => h_)))
       (case aB => exact (gB_ HB.out))
       (case aF => exact (fun _ _ => trivial))
       (case aO => exact (by (with_reducible repeat (first | apply Kd.S_alloc | apply Kd.S_drewN | apply Kd.S_drew)); exact Kd.S_mono HO_129000.out (fun k_ hk => ⟨trivial, fun e_ => hk.2 e_⟩)))
       (case aS => exact (below_size (gB_ HB.out)))
       (case aL => have := LMc15.out; omega)
       intro v133 w23 ho hb hg hat
       rw [← Ny132.out] at ho
       have n0 := aM_ (blk_grown (g := gb125) (o := .cells #[.slice A0_0 l0_0.length c0_0, .slice A0_1 l0_1.length c0_1] 44 (0, 0)) (by (with_reducible repeat (first | refine bN_ ?_ _ | refine bD_ ?_ | refine bA_ ?_ _)); exact BK125.out) hg (Kd.S_ne HO_129000.out BK125.out (by decide)))
       have n1 := aM_ (blk_grown (g := gb126) (o := .cells #[.slice none 0 0, .slice none 0 0, .slice none 0 0] 28 (0, 0)) (by (with_reducible repeat (first | refine bN_ ?_ _ | refine bD_ ?_ | refine bA_ ?_ _)); exact BK126.out) hg (Kd.S_ne HO_129000.out BK126.out (by decide)))
       have n2 := aM_ (blk_grown (g := gb128) (o := .cells #[u1290, .slice none 0 0, .slice none 0 0] 28 (0, 0)) (by (with_reducible repeat (first | refine bN_ ?_ _ | refine bD_ ?_ | refine bA_ ?_ _)); exact BK128.out) hg (Kd.S_ne HO_129000.out BK128.out (by decide)))
       have n3 := aM_ (hb)
       have n4 := aM_ (ho)
       clear BK125
       clear BK126
       clear BK128
       clear HB
       clear HO_129000
       clear HO131
       have BK125 := n0
       have BK126 := n1
       have BK128 := n2
       have HB := n3
       have HO134 := n4
       clear n0 n1 n2 n3 n4
       clear ho hb hg hat
       obtain ⟨Ao24, co24, eo24⟩ := Kd.S_slice HO134.out
       (first | subst eo24 | (injection eo24 with f1_ f2_ f3_; have f4_ := f1_.symm; have f5_ := f3_.symm; clear f1_ f2_ f3_; subst f4_; subst f5_))
       refine hK.out _ _ (bC3_ BK128.out) (fun hHeld => ?_)
       clear hK K
       refine norm_ (a' := ?_) ?_ ?_
       rotate_left
       ·show Act.put _ (some 24) _ = _
        simp only [pt_, pn_, sI_, s0_, s1_, i64_w, i32_w]
        rfl
       refine pU_ 6 (some 25) (mk_ 8 127) ?_
       refine last_ (i := 7) (N := none) #[true, true, true, true, true, true, true, true] rfl rfl (one_of HT_.out (by kernel_rfl)) (by decide) (fun K hK => ?_)
       have hs25 : w23.cell? ⟨gb128, 0, none⟩ = some (u1290) := (blk_cell BK128.out 0).trans rfl
       have hfs25 := blk_frozen BK128.out 0
       have hns25_0 := NB125_128.out
       have hns25_1 := NB126_128.out
       have hms25_0 := NB128_125.out
       have hms25_1 := NB128_126.out
       refine skip_ (w1 := ?_) (by rfl) rfl ?_ ?_
       rotate_left
       ·go_simp
        rfl
       refine hK.out _ _ ?_
       clear hK K
       refine done_ (done_of HT_.out (by kernel_rfl)) ?_
       try go_wp2
       go_roundg k1
       case measure => have := HK1.out; omega
       case rel => exact ⟨(wrap64 (x5_1 + 1)), (y132), (.slice Ao24 y132.length co24), (by first | rfl | (simp; done) | (simp [*]; done)), H', ⟨by have := HK1.out; omega⟩, ⟨by (with_reducible repeat (first | apply Kd.S_alloc | apply Kd.S_drewN | apply Kd.S_drew)); exact Kd.S_mono (Kd.S_far (p := ⟨gb128, 0, none⟩) (Kd.S_types HO134.out BK128.out (by decide)) (fun _ hk => hk.2) (.slice Ao24 y132.length co24)) (fun _ hk => trivial)⟩, ⟨by (with_reducible repeat (first | refine bN_ ?_ _ | refine bD_ ?_ | refine bA_ ?_ _)); refine blk_far ?_ NB125_128.out _; (with_reducible repeat (first | refine bN_ ?_ _ | refine bD_ ?_ | refine bA_ ?_ _)); exact BK125.out⟩, ⟨by (with_reducible repeat (first | refine bN_ ?_ _ | refine bD_ ?_ | refine bA_ ?_ _)); refine blk_far ?_ NB126_128.out _; (with_reducible repeat (first | refine bN_ ?_ _ | refine bD_ ?_ | refine bA_ ?_ _)); exact BK126.out⟩, ⟨by (with_reducible repeat (first | refine bN_ ?_ _ | refine bD_ ?_ | refine bA_ ?_ _)); refine blk_put (cs := #[u1290, .slice none 0 0, .slice none 0 0]) ?_ 0 _ rfl; (with_reducible repeat (first | refine bN_ ?_ _ | refine bD_ ?_ | refine bA_ ?_ _)); exact BK128.out⟩, ⟨gW_ HB.out⟩⟩
      ·rw [if_neg c15] at H
       exact absurd H (by simp)
     ·rw [if_neg c14] at H
      exact absurd H (by simp)
    ·rw [if_neg c13] at H
     have c13b0 : decide (x5_1 < (l0_1.length : Int)) = false := decide_eq_false c13
     clear c13
     have H' := aM_ H
     clear H
     have hnb26 := NB125_126.out
     have hnc26 := NB126_125.out
     have hnb27 := NB125_128.out
     have hnc27 := NB128_125.out
     obtain ⟨hcz28_0, hcz28_1, hfz28_0, hfz28_1⟩ := bR2_ BK125.out
     go_wp2
     go_loopg [6] k1 (fun kq v6 w' => ∃ (x6_2 : Int) (x1291_2 : List (S94)) (u1291 : Value), v6 = .int .i64 x6_2 ∧ Aside0 (spec_SourceNew.l1 kq x6_2 l0_0 l0_1 x1290_1 x1291_2 = some (r1, r2, r3, r4)) ∧ Aside0 (kq ≤ k1) ∧ Aside0 (Kd.S k107 107 w' w.heap.size (fun _ => True) u1290 x1290_1) ∧ Aside0 (Kd.S k94 94 w' w.heap.size (fun _ => True) u1291 x1291_2) ∧ Aside0 (w'.heap[gb125]? = some (.cells #[(.slice A0_0 l0_0.length c0_0), (.slice A0_1 l0_1.length c0_1)] 44 (0, 0))) ∧ Aside0 (w'.heap[gb126]? = some (.cells #[(.slice none 0 0), (.slice none 0 0), (.slice none 0 0)] 28 (0, 0))) ∧ Aside0 (w'.heap[gb128]? = some (.cells #[u1290, u1291, (.slice none 0 0)] 28 (0, 0))) ∧ Aside0 (Below w.heap.size w w'))
     case atStart => exact ⟨(0), (([] : List (S94))), (.slice none 0 0), (by first | rfl | (simp; done) | (simp [*]; done)), H', ⟨Nat.le_refl _⟩, ⟨by (with_reducible repeat (first | apply Kd.S_alloc | apply Kd.S_drewN | apply Kd.S_drew)); exact HO_129000.out⟩, ⟨by first | exact Kd.S_nil _ _ _ _ _ | exact Kd.N_nil _ _ _ _ _ | exact Kd.V_nil _ _ _ _ _ | exact Kd.Q_nil _ _ _ _ _ | exact Kd.R_nil _ _ _ _ _⟩, ⟨rW_ BK125.out⟩, ⟨rW_ BK126.out⟩, ⟨rW_ BK128.out⟩, ⟨gW_ HB.out⟩⟩
     case round =>
      clear H'
      try clear c1
      try clear c2
      try clear p2
      try clear c3
      try clear c6
      try clear p6
      try clear c10
      try clear c11
      try clear c13
      try clear c13b0
      try clear c14
      try clear c14b0
      try clear c14b1
      try clear c15
      try clear c16
      try clear c17
      try clear c26
      try clear c27
      try clear hcz12_0 hcz12_1 hcz12_2 hfz12_0 hfz12_1 hfz12_2
      try clear hcz18_0 hcz18_1 hfz18_0 hfz18_1
      try clear hcz28_0 hcz28_1 hfz28_0 hfz28_1
      try clear hcz7_0 hcz7_1 hfz7_0 hfz7_1
      try clear p2
      obtain ⟨x6_2, x1291_2, u1291, rfl, HA, HK2, HO_129000, HO_129001, BK125, BK126, BK128, HB⟩ := hrel
      cases gk with
      | zero => exact absurd HA.out (by simp [spec_SourceNew.l1])
      | succ k2 =>
       have H := HA.out
       clear HA
       simp only [spec_SourceNew.l1] at H
       by_cases c29 : x6_2 < (l0_0.length : Int)
       ·rw [if_pos c29] at H
        have c29b0 : decide (x6_2 < (l0_0.length : Int)) = true := decide_eq_true c29
        clear c29
        by_cases c30 : 0 ≤ x6_2
        ·rw [if_pos c30] at H
         have c30b0 : decide (0 ≤ x6_2) = true := decide_eq_true c30
         clear c30
         by_cases c31 : x1291_2.length < 3518437208883
         ·rw [if_pos c31] at H
          have LMc31 := aM_ c31
          clear c31
          obtain ⟨y136, hy136⟩ : ∃ y_ : List (S94), y_ = (x1291_2 ++ [(⟨rd l0_0 x6_2, ([] : List Int), false⟩ : S94)]) := ⟨_, rfl⟩
          replace H : (spec_SourceNew.l1 k2 (wrap64 (x6_2 + 1)) l0_0 l0_1 x1290_1 y136) = some (r1, r2, r3, r4) := by first | (rw [hy136]; with_reducible exact H) | (have H2_ := (Option.bind_some _ _).symm.trans H; rw [hy136]; with_reducible exact H2_) | (have H2_ := (Option.bind_some _ _).symm.trans H; with_reducible exact H2_) | with_reducible exact H | (rw [hy136]; exact H) | exact H
          have Ny136 := aM_ hy136
          clear hy136
          have H' := aM_ H
          clear H
          have hnb32 := NB125_126.out
          have hnc32 := NB126_125.out
          have hnb33 := NB125_128.out
          have hnc33 := NB128_125.out
          obtain ⟨hcz34_0, hcz34_1, hfz34_0, hfz34_1⟩ := bR2_ BK125.out
          try go_wp2
          have n0 := aM_ (Kd.S_drew HO_129000.out)
          have n1 := aM_ (Kd.S_drew HO_129001.out)
          have n2 := aM_ (blk_drew BK125.out)
          have n3 := aM_ (blk_drew BK126.out)
          have n4 := aM_ (blk_drew BK128.out)
          have n5 := aM_ (below_drew1 HB.out)
          clear HO_129000
          clear HO_129001
          clear BK125
          clear BK126
          clear BK128
          clear HB
          have HO_129000 := n0
          have HO_129001 := n1
          have BK125 := n2
          have BK126 := n3
          have BK128 := n4
          have HB := n5
          clear n0 n1 n2 n3 n4 n5
          have p135 : 0 ≤ (x6_2 : Int) := of_decide_eq_true (by first | (with_reducible assumption) | assumption)
          have q135 : x6_2 < (l0_0.length : Int) := of_decide_eq_true (by first | (with_reducible assumption) | assumption)
          obtain ⟨ad135, e135, hx135_0⟩ := Kd.at_int HR0_0.out x6_2 p135 q135
          have hw135_0 := hx135_0
          cases e135
          replace hx135_0 := cB_ HB.out hx135_0
          replace p135 := eq_true p135
          replace q135 := eq_true q135
          refine start_ (n := 12) (S := fun w' => w'.cell? ⟨gb128, 0, none⟩ = some (u1290) ∧ w'.cell? ⟨gb128, 1, none⟩ = some (u1291) ∧ w'.cell? ⟨gb128, 2, none⟩ = some (.slice none 0 0) ∧ w'.cell? ⟨gb125, 0, none⟩ = some (.slice (some ad135) l0_0.length c0_0) ∧ w'.cell? ⟨gb125, 1, none⟩ = some (.slice A0_1 l0_1.length c0_1) ∧ w'.cell? (ad135.add (x6_2).toNat) = some (.int .i64 (rd l0_0 x6_2))) (ds := [11]) #[false, false, false, false, false, false, false, false, false, false, false, false] (by kernel_rfl) rfl rfl ⟨(blk_cell BK128.out 0).trans rfl, (blk_cell BK128.out 1).trans rfl, (blk_cell BK128.out 2).trans rfl, (blk_cell BK125.out 0).trans rfl, (blk_cell BK125.out 1).trans rfl, (cB_ HB.out hw135_0 :)⟩ (fun hHeld => ?_); refine with_tabW spec_SourceNew.tab11 spec_SourceNew.bits11 (fun HT_ HW_ => ?_)
          generalize wr.drew = w35 at HO_129000 HO_129001 BK125 BK126 BK128 HB hx135_0 hHeld ⊢
          refine pU_ 0 (some 33) (mk_ 12 1) ?_
          refine pU_ 2 (some 35) (mk_ 12 5) ?_
          refine pU_ 4 (some 37) (mk_ 12 21) ?_
          refine tK6_ 1 (some 34) (mk_ 12 23) ?_
          refine tK6_ 3 (some 36) (mk_ 12 31) ?_
          refine pU_ 5 (some 38) (mk_ 12 63) ?_
          refine tK6_ 6 (some 39) (mk_ 12 127) ?_
          refine pU_ 7 (some 40) (mk_ 12 255) ?_
          refine oN_ 8 (some 41) (mk_ 12 511) (fun K hK => ?_)
          refine value_ (w1 := ?_) (v := ?_) (by rfl) rfl ?_ ?_
          rotate_left 2
          ·go_simp
           constructor
           ·rfl
           ·rfl
          refine hK.out _ _ ⟨(blk_cell (blk_alloc BK128.out _) 0).trans rfl, (blk_cell (blk_alloc BK128.out _) 1).trans rfl, (blk_cell (blk_alloc BK128.out _) 2).trans rfl, (blk_cell (blk_alloc BK125.out _) 0).trans rfl, (blk_cell (blk_alloc BK125.out _) 1).trans rfl, (World.cell?_alloc_lt _ _ _ (World.block_lt_of_cell? _ _ ((cB_ HB.out hw135_0 :)))).trans ((cB_ HB.out hw135_0 :))⟩ (fun hHeld => ?_)
          clear hK K
          refine norm_ (a' := ?_) ?_ ?_
          rotate_left
          ·show Act.put _ (some 41) _ = _
           simp only [pt_, pn_, sI_, s0_, s1_, i64_w, i32_w]
           rfl
          refine oN_ 9 (some 42) (mk_ 12 1023) (fun K hK => ?_)
          refine Kd.S_append_step k94 (w0 := w) w.heap.size (by rfl) (.tmp 34) (.tmp 41) 25 94 (.agg #[(.int .i64 0), (.slice none 0 0), (.bool false)]) 40 rfl Try.underlying25 info94 rfl (by decide) (by omega) u1291 x1291_2 (⟨rd l0_0 x6_2, ([] : List Int), false⟩ : S94) [.int .i64 (rd l0_0 x6_2), .slice none 0 0, .bool false] (fun _ => True) (fun _ => False) rfl rfl ?aP (fun k_ hk_ => hk_.elim) ?aF ?aO ?aB ?aS ?aL ?_
          (case aP => exact k94_mkM _ _ _ (⟨rd l0_0 x6_2, ([] : List Int), false⟩ : S94) (Kd.R_nil _ _ _ _ _))
          (case aB => exact (gB_ HB.out))
          (case aF => exact (fun _ _ => trivial))
          (case aO => exact (by (with_reducible repeat (first | apply Kd.S_alloc | apply Kd.S_drewN | apply Kd.S_drew)); exact Kd.S_mono HO_129001.out (fun k_ hk => ⟨trivial, fun e_ => e_⟩)))
          (case aS => exact (below_size (gB_ HB.out)))
          (case aL => have := LMc31.out; omega)
          intro v137 w36 ho hb hg hat
          rw [← Ny136.out] at ho
          have n0 := aM_ (Kd.S_over' (by (with_reducible repeat (first | apply Kd.S_alloc | apply Kd.S_drewN | apply Kd.S_drew)); exact HO_129000.out) (Kd.S_typed (by (with_reducible repeat (first | apply Kd.S_alloc | apply Kd.S_drewN | apply Kd.S_drew)); exact HO_129001.out)) (by decide) hg)
          have n1 := aM_ (blk_grown (g := gb125) (o := .cells #[.slice (some ad135) l0_0.length c0_0, .slice A0_1 l0_1.length c0_1] 44 (0, 0)) (by (with_reducible repeat (first | refine bN_ ?_ _ | refine bD_ ?_ | refine bA_ ?_ _)); exact BK125.out) hg (Kd.S_ne HO_129001.out BK125.out (by decide)))
          have n2 := aM_ (blk_grown (g := gb126) (o := .cells #[.slice none 0 0, .slice none 0 0, .slice none 0 0] 28 (0, 0)) (by (with_reducible repeat (first | refine bN_ ?_ _ | refine bD_ ?_ | refine bA_ ?_ _)); exact BK126.out) hg (Kd.S_ne HO_129001.out BK126.out (by decide)))
          have n3 := aM_ (blk_grown (g := gb128) (o := .cells #[u1290, u1291, .slice none 0 0] 28 (0, 0)) (by (with_reducible repeat (first | refine bN_ ?_ _ | refine bD_ ?_ | refine bA_ ?_ _)); exact BK128.out) hg (Kd.S_ne HO_129001.out BK128.out (by decide)))
          have n4 := aM_ (hb)
          have n5 := aM_ (ho)
          clear HO_129000
          clear BK125
          clear BK126
          clear BK128
          clear HB
          clear HO_129001
          have HO_129000 := n0
          have BK125 := n1
          have BK126 := n2
          have BK128 := n3
          have HB := n4
          have HO138 := n5
          clear n0 n1 n2 n3 n4 n5
          clear ho hb hg hat
          obtain ⟨Ao37, co37, eo37⟩ := Kd.S_slice HO138.out
          (first | subst eo37 | (injection eo37 with f1_ f2_ f3_; have f4_ := f1_.symm; have f5_ := f3_.symm; clear f1_ f2_ f3_; subst f4_; subst f5_))
          refine hK.out _ _ ⟨(blk_cell BK128.out 0).trans rfl, (blk_cell BK128.out 1).trans rfl, (blk_cell BK128.out 2).trans rfl, (blk_cell BK125.out 0).trans rfl, (blk_cell BK125.out 1).trans rfl, (cB_ HB.out hw135_0 :)⟩ (fun hHeld => ?_)
          clear hK K
          refine norm_ (a' := ?_) ?_ ?_
          rotate_left
          ·show Act.put _ (some 42) _ = _
           simp only [pt_, pn_, sI_, s0_, s1_, i64_w, i32_w]
           rfl
          refine pU_ 10 (some 43) (mk_ 12 2047) ?_
          refine last_ (i := 11) (N := none) #[true, true, true, true, true, true, true, true, true, true, true, true] rfl rfl (one_of HT_.out (by kernel_rfl)) (by decide) (fun K hK => ?_)
          have hs38 : w36.cell? ⟨gb128, 1, none⟩ = some (u1291) := (blk_cell BK128.out 1).trans rfl
          have hfs38 := blk_frozen BK128.out 1
          have hns38_0 := NB125_128.out
          have hns38_1 := NB126_128.out
          have hms38_0 := NB128_125.out
          have hms38_1 := NB128_126.out
          refine skip_ (w1 := ?_) (by rfl) rfl ?_ ?_
          rotate_left
          ·go_simp
           rfl
          refine hK.out _ _ ?_
          clear hK K
          refine done_ (done_of HT_.out (by kernel_rfl)) ?_
          try go_wp2
          go_roundg k2
          case measure => have := HK1.out; have := HK2.out; omega
          case rel => exact ⟨(wrap64 (x6_2 + 1)), (y136), (.slice Ao37 y136.length co37), (by first | rfl | (simp; done) | (simp [*]; done)), H', ⟨by have := HK1.out; have := HK2.out; omega⟩, ⟨by (with_reducible repeat (first | apply Kd.S_alloc | apply Kd.S_drewN | apply Kd.S_drew)); exact Kd.S_mono (Kd.S_far (p := ⟨gb128, 1, none⟩) (Kd.S_types HO_129000.out BK128.out (by decide)) (fun _ hk => hk.2) (.slice Ao37 y136.length co37)) (fun _ hk => trivial)⟩, ⟨by (with_reducible repeat (first | apply Kd.S_alloc | apply Kd.S_drewN | apply Kd.S_drew)); exact Kd.S_mono (Kd.S_far (p := ⟨gb128, 1, none⟩) (Kd.S_types HO138.out BK128.out (by decide)) (fun _ hk => hk.2) (.slice Ao37 y136.length co37)) (fun _ hk => trivial)⟩, ⟨by (with_reducible repeat (first | refine bN_ ?_ _ | refine bD_ ?_ | refine bA_ ?_ _)); refine blk_far ?_ NB125_128.out _; (with_reducible repeat (first | refine bN_ ?_ _ | refine bD_ ?_ | refine bA_ ?_ _)); exact BK125.out⟩, ⟨by (with_reducible repeat (first | refine bN_ ?_ _ | refine bD_ ?_ | refine bA_ ?_ _)); refine blk_far ?_ NB126_128.out _; (with_reducible repeat (first | refine bN_ ?_ _ | refine bD_ ?_ | refine bA_ ?_ _)); exact BK126.out⟩, ⟨by (with_reducible repeat (first | refine bN_ ?_ _ | refine bD_ ?_ | refine bA_ ?_ _)); refine blk_put (cs := #[u1290, u1291, .slice none 0 0]) ?_ 1 _ rfl; (with_reducible repeat (first | refine bN_ ?_ _ | refine bD_ ?_ | refine bA_ ?_ _)); exact BK128.out⟩, ⟨gW_ HB.out⟩⟩
         ·rw [if_neg c31] at H
          exact absurd H (by simp)
        ·rw [if_neg c30] at H
         exact absurd H (by simp)
       ·rw [if_neg c29] at H
        have c29b0 : decide (x6_2 < (l0_0.length : Int)) = false := decide_eq_false c29
        clear c29
        simp only [Option.some.injEq, Prod.mk.injEq] at H
        obtain ⟨rfl, rfl, rfl, rfl⟩ := H
        have hnb39 := NB125_126.out
        have hnc39 := NB126_125.out
        have hnb40 := NB125_128.out
        have hnc40 := NB128_125.out
        obtain ⟨hcz41_0, hcz41_1, hfz41_0, hfz41_1⟩ := bR2_ BK125.out
        have hnb42 := NB128_126.out
        have hnc42 := NB126_128.out
        obtain ⟨hcz43_0, hcz43_1, hcz43_2, hfz43_0, hfz43_1, hfz43_2⟩ := bR3_ BK128.out
        obtain ⟨Ao44, co44, eo44⟩ := Kd.S_slice HO_129000.out
        subst eo44
        obtain ⟨hcz45_0, hcz45_1, hcz45_2, hfz45_0, hfz45_1, hfz45_2⟩ := bR3_ BK126.out
        obtain ⟨Ao46, co46, eo46⟩ := Kd.S_slice HO_129001.out
        subst eo46
        go_wp2
        refine bodyPost_ret (results_ct rfl _ _ gb126 28 #[.slice Ao44 x1290_1.length co44, .slice Ao46 x1291_2.length co46, .slice none 0 0] (0, 0) _ rfl (by (with_reducible repeat (first | refine bN_ ?_ _ | refine bD_ ?_ | refine bA_ ?_ _)); refine blk_put (cs := #[.slice Ao44 x1290_1.length co44, .slice Ao46 x1291_2.length co46, .slice none 0 0]) ?_ 2 _ rfl; refine blk_put (cs := #[.slice Ao44 x1290_1.length co44, .slice none 0 0, .slice none 0 0]) ?_ 1 _ rfl; refine blk_put (cs := #[.slice none 0 0, .slice none 0 0, .slice none 0 0]) ?_ 0 _ rfl; exact rW_ BK126.out) Try.underlying28 rfl (by kernel_rfl)) rfl ?_
        exact ⟨_, _, _, fR_, by (with_reducible repeat (first | apply Kd.S_alloc | apply Kd.S_drewN | apply Kd.S_drew)); exact Kd.S_mono (Kd.S_far (p := ⟨gb126, 2, none⟩) (Kd.S_far (p := ⟨gb126, 1, none⟩) (Kd.S_far (p := ⟨gb126, 0, none⟩) (Kd.S_types HO_129000.out BK126.out (by decide)) (fun _ hk => hk.2) (.slice Ao44 x1290_1.length co44)) (fun _ hk => hk.2) (.slice Ao46 x1291_2.length co46)) (fun _ hk => hk.2) (.slice none 0 0)) (fun _ hk => trivial), by (with_reducible repeat (first | apply Kd.S_alloc | apply Kd.S_drewN | apply Kd.S_drew)); exact Kd.S_mono (Kd.S_far (p := ⟨gb126, 2, none⟩) (Kd.S_far (p := ⟨gb126, 1, none⟩) (Kd.S_far (p := ⟨gb126, 0, none⟩) (Kd.S_types HO_129001.out BK126.out (by decide)) (fun _ hk => hk.2) (.slice Ao44 x1290_1.length co44)) (fun _ hk => hk.2) (.slice Ao46 x1291_2.length co46)) (fun _ hk => hk.2) (.slice none 0 0)) (fun _ hk => trivial), by first | exact Kd.R_nil _ _ _ _ _ | exact Kd.N_nil _ _ _ _ _ | exact Kd.V_nil _ _ _ _ _ | exact Kd.Q_nil _ _ _ _ _ | exact Kd.S_nil _ _ _ _ _, gB_ HB.out⟩
 ·replace c3 := Bool.eq_false_iff.mpr c3
  subst c3
  have H1 : (some (([] : List (S107)), ([] : List (S94)), ([] : List (S35)), false)) = some (r1, r2, r3, r4) := by rw [if_neg (show ¬ (false = true) by decide)] at H; exact H
  clear H
  have H := H1
  clear H1
  simp only [Option.some.injEq, Prod.mk.injEq] at H
  obtain ⟨rfl, rfl, rfl, rfl⟩ := H
  go_enter Try.func16, Try.ntmps16
  go_wp2_with (first | ((with_reducible refine gate_dst (N := 1) rfl ?_); refine bX_ 1 (cs := #[.slice A0_0 l0_0.length c0_0, .slice A0_1 l0_1.length c0_1]) (t := 44) ?_; intro gb125 hg w47 hbox hb; have n0 := aM_ (sT_ HB.out hb); have n1 := aM_ (hbox); have n2 := aM_ (sZ_ hg HB.out); have n3 := aM_ (sZ_ hg HB.out); clear HB; have HB := n0; have BK125 := n1; have GW125 := n2; have GE125 := n3; clear n0 n1 n2 n3; clear hb hbox hg) | ((with_reducible refine gate_dst (N := 2) rfl ?_); refine bX_ 2 (cs := #[.slice none 0 0, .slice none 0 0, .slice none 0 0]) (t := 28) ?_; intro gb126 hg w48 hbox hb; have n0 := aM_ (nB_ BK125.out hb); have n1 := aM_ (sT_ HB.out hb); have n2 := aM_ (hbox); have n3 := aM_ (sZ_ hg HB.out); have n4 := aM_ (sZ_ hg HB.out); have n5 := aM_ (nL_ hg BK125.out); have n6 := aM_ (nG_ hg BK125.out); clear BK125; clear HB; have BK125 := n0; have HB := n1; have BK126 := n2; have GW126 := n3; have GE126 := n4; have NB125_126 := n5; have NB126_125 := n6; clear n0 n1 n2 n3 n4 n5 n6; clear hb hbox hg; have hnb49 := NB125_126.out; have hnc49 := NB126_125.out; obtain ⟨hcz50_0, hcz50_1, hfz50_0, hfz50_1⟩ := bR2_ BK125.out) | ((with_reducible refine gate_callee (f := 60) rfl ?_); refine gL_ (some 8) Try.func60 #[.agg #[.slice A0_0 l0_0.length c0_0, .slice A0_1 l0_1.length c0_1]] ?_; (with_reducible refine (spec_ProgOk.calls k _ _ l0_0 _ _ l0_1 false _ ?side1 ?side2 ?side3 ?side4 A2.out).mono ?_); (case side1 => exact cS_ (Kd.C_below HR0_0.out HB.out)); (case side2 => exact HC0_0.out); (case side3 => exact cS_ (Kd.C_below HR0_1.out HB.out)); (case side4 => exact HC0_1.out); rintro e w51 ⟨rfl, hb⟩; refine ⟨_, rfl, ?_⟩; have n0 := aM_ (nB_ BK125.out hb); have n1 := aM_ (nB_ BK126.out hb); have n2 := aM_ (sT_ HB.out hb); clear BK125; clear BK126; clear HB; have BK125 := n0; have BK126 := n1; have HB := n2; clear n0 n1 n2; obtain ⟨hcz52_0, hcz52_1, hcz52_2, hfz52_0, hfz52_1, hfz52_2⟩ := bR3_ BK126.out))
  refine bodyPost_ret (results_ct rfl _ _ gb126 28 #[.slice none 0 0, .slice none 0 0, .slice none 0 0] (0, 0) _ rfl (by (with_reducible repeat (first | refine bN_ ?_ _ | refine bD_ ?_ | refine bA_ ?_ _)); refine blk_put (cs := #[.slice none 0 0, .slice none 0 0, .slice none 0 0]) ?_ 2 _ rfl; refine blk_put (cs := #[.slice none 0 0, .slice none 0 0, .slice none 0 0]) ?_ 1 _ rfl; refine blk_put (cs := #[.slice none 0 0, .slice none 0 0, .slice none 0 0]) ?_ 0 _ rfl; exact rW_ BK126.out) Try.underlying28 rfl (by kernel_rfl)) rfl ?_
  exact ⟨_, _, _, fR_, by first | exact Kd.S_nil _ _ _ _ _ | exact Kd.N_nil _ _ _ _ _ | exact Kd.V_nil _ _ _ _ _ | exact Kd.Q_nil _ _ _ _ _ | exact Kd.R_nil _ _ _ _ _, by first | exact Kd.S_nil _ _ _ _ _ | exact Kd.N_nil _ _ _ _ _ | exact Kd.V_nil _ _ _ _ _ | exact Kd.Q_nil _ _ _ _ _ | exact Kd.R_nil _ _ _ _ _, by first | exact Kd.R_nil _ _ _ _ _ | exact Kd.N_nil _ _ _ _ _ | exact Kd.V_nil _ _ _ _ _ | exact Kd.Q_nil _ _ _ _ _ | exact Kd.S_nil _ _ _ _ _, gB_ HB.out⟩
def laws_toIntS.l0 : Nat → List Int → List Int → Int → Option (List Int)
  | 0, _, _, _ => none
  | k + 1, x0, x3, x4 => if x4 < (x0.length : Int) then (if 0 ≤ x4 then (if x4 < (x3.length : Int) then (laws_toIntS.l0 k x0 (x3.set (x4 : Int).toNat (rd x0 x4)) (wrap64 (x4 + 1))) else (none)) else (none)) else (some x3)
def laws_toIntS.f (k : Nat) (l0 : List Int) : Option (List Int) := if 0 ≤ (l0.length : Int) then (if ((l0.length : Int) : Int).toNat ≤ 35184372088832 then (laws_toIntS.l0 k l0 (List.replicate ((l0.length : Int) : Int).toNat 0) 0) else (none)) else (none)
set_option maxHeartbeats 8000000 in
set_option maxRecDepth 100000 in
theorem laws_toIntS.calls (k : Nat) (A0 : Option Addr) (c0 : Nat) (l0 : List Int) (r : List Int) (w : World) (hr0 : Kd.C (Kd.int .i64) w A0 l0.length l0) (hc0 : l0.length ≤ c0) (h : laws_toIntS.f k l0 = some r) :
  Calls Try.prog 61 #[.slice A0 l0.length c0] w fun e w' => ∃ v0_ : Value, e = .returned (v0_) ∧ Kd.R (Kd.int .i64) 3 w' w.heap.size (fun _ => True) v0_ r ∧ Below w.heap.size w w' := by
 have HR0 := aM_ hr0
 have HC0 := aM_ hc0
 clear hr0 hc0
 have HB := aM_ (Below.refl w.heap.size w)
 have H : (if 0 ≤ (l0.length : Int) then (if ((l0.length : Int) : Int).toNat ≤ 35184372088832 then (laws_toIntS.l0 k l0 (List.replicate ((l0.length : Int) : Int).toNat 0) 0) else (none)) else (none)) = some r := h
 clear h
 by_cases c2 : 0 ≤ (l0.length : Int)
 ·rw [if_pos c2] at H
  have c2b0 := eq_true c2
  have c2b1 : decide (0 ≤ (l0.length : Int)) = true := decide_eq_true c2
  clear c2
  by_cases c3 : ((l0.length : Int) : Int).toNat ≤ 35184372088832
  ·rw [if_pos c3] at H
   have c3b0 := eq_true c3
   have c3b1 : decide (((l0.length : Int) : Int).toNat ≤ 35184372088832) = true := decide_eq_true c3
   clear c3
   obtain ⟨y139, hy139⟩ : ∃ y_ : List Int, y_ = (List.replicate ((l0.length : Int) : Int).toNat 0) := ⟨_, rfl⟩
   replace H : (laws_toIntS.l0 k l0 y139 0) = some r := by first | (rw [hy139]; with_reducible exact H) | (have H2_ := (Option.bind_some _ _).symm.trans H; rw [hy139]; with_reducible exact H2_) | (have H2_ := (Option.bind_some _ _).symm.trans H; with_reducible exact H2_) | with_reducible exact H | (rw [hy139]; exact H) | exact H
   have Ny139 := aM_ hy139
   clear hy139
   have H' := aM_ H
   clear H
   go_enter Try.func61, Try.ntmps61
   go_wp2_with (first | ((with_reducible refine gate_dst (N := 7) rfl ?_); refine Kd.R_make (Kd.int .i64) _ 3 rfl (N := 7) rfl 31 _ _ rfl (l0.length : Int) rfl rfl Try.underlying31 (.int .i64 0) 8 info3 rfl (by decide) (by omega) 0 (ok := fun _ => True) (okp := fun _ => True) rfl (fun _ hk => hk) trivial (of_decide_eq_true (by first | (with_reducible assumption) | assumption)) (Nat.le_trans (Nat.mul_le_mul_right _ (of_decide_eq_true (by first | (with_reducible assumption) | assumption) : (l0.length : Int).toNat ≤ 35184372088832)) (by omega)) (Below.refl _ _) (Nat.le_refl _) ?_; intro v140 w4 ho5 hb hg_ hnew_; clear hg_ hnew_; (first | rw [← Ny139.out] at ho5 | (simp only [Int.reduceToNat] at ho5; rw [← Ny139.out] at ho5)); have n0 := aM_ (Kd.R_lower ho5 (below_size (gB_ HB.out))); have n1 := aM_ (sT_ HB.out hb); clear HB; have HO141 := n0; have HB := n1; clear n0 n1; clear hb ho5))
   go_loopg [4] k (fun kq v4 w' => ∃ (x3_1 : List Int) (x4_1 : Int), v4 = .int .i64 x4_1 ∧ Aside0 (laws_toIntS.l0 kq l0 x3_1 x4_1 = some r) ∧ Aside0 (kq ≤ k) ∧ Aside0 (Kd.R (Kd.int .i64) 3 w' w.heap.size (fun _ => True) v140 x3_1) ∧ Aside0 (Below w.heap.size w w'))
   case atStart => exact ⟨(y139), (0), (by first | rfl | (simp; done) | (simp [*]; done)), H', ⟨Nat.le_refl _⟩, ⟨by (with_reducible repeat (first | apply rA_ | apply rN_ | apply rD_)); exact HO141.out⟩, ⟨gW_ HB.out⟩⟩
   case round =>
    clear H'
    try clear c2
    try clear c2b0
    try clear c2b1
    try clear p2
    try clear c3
    try clear c3b0
    try clear c3b1
    obtain ⟨x3_1, x4_1, rfl, HA, HK1, HO_3, HB⟩ := hrel
    cases gk with
    | zero => exact absurd HA.out (by simp [laws_toIntS.l0])
    | succ k1 =>
     have H := HA.out
     clear HA
     simp only [laws_toIntS.l0] at H
     by_cases c6 : x4_1 < (l0.length : Int)
     ·rw [if_pos c6] at H
      have c6b0 : decide (x4_1 < (l0.length : Int)) = true := decide_eq_true c6
      clear c6
      by_cases c7 : 0 ≤ x4_1
      ·rw [if_pos c7] at H
       have c7b0 : decide (0 ≤ x4_1) = true := decide_eq_true c7
       clear c7
       by_cases c8 : x4_1 < (x3_1.length : Int)
       ·rw [if_pos c8] at H
        have c8b0 : decide (x4_1 < (x3_1.length : Int)) = true := decide_eq_true c8
        clear c8
        obtain ⟨y143, hy143⟩ : ∃ y_ : List Int, y_ = (x3_1.set (x4_1 : Int).toNat (rd l0 x4_1)) := ⟨_, rfl⟩
        replace H : (laws_toIntS.l0 k1 l0 y143 (wrap64 (x4_1 + 1))) = some r := by first | (rw [hy143]; with_reducible exact H) | (have H2_ := (Option.bind_some _ _).symm.trans H; rw [hy143]; with_reducible exact H2_) | (have H2_ := (Option.bind_some _ _).symm.trans H; with_reducible exact H2_) | with_reducible exact H | (rw [hy143]; exact H) | exact H
        have Ny143 := aM_ hy143
        clear hy143
        have H' := aM_ H
        clear H
        have p142 : 0 ≤ (x4_1 : Int) := of_decide_eq_true (by first | (with_reducible assumption) | assumption)
        have q142 : x4_1 < (l0.length : Int) := of_decide_eq_true (by first | (with_reducible assumption) | assumption)
        obtain ⟨ad142, e142, hx142_0⟩ := Kd.at_int HR0.out x4_1 p142 q142
        cases e142
        replace hx142_0 := cB_ HB.out hx142_0
        replace p142 := eq_true p142
        replace q142 := eq_true q142
        have p9 : 0 ≤ (x4_1 : Int) := of_decide_eq_true (by first | (with_reducible assumption) | assumption)
        have q9 : (x4_1 : Int) < ((x3_1.length : Int) : Int) := of_decide_eq_true (by first | (with_reducible assumption) | assumption)
        obtain ⟨go9, co9, eo9, gb9, gl9, cl9, HG9⟩ := Kd.R_form HO_3.out (by omega)
        (first | cases eo9 | (injection eo9 with ea_ en_ ec_; (first | subst ea_ | (injection ea_ with ea_; subst ea_)); subst ec_; clear en_))
        have GB9 := aM_ gb9
        have GG9 := aM_ HG9
        clear gb9 gl9 HG9
        obtain ⟨hx9_0, hf9_0⟩ := Kd.R_celln 0 HO_3.out (x4_1 : Int) p9 q9
        replace p9 := eq_true p9
        replace q9 := eq_true q9
        have HP10 := Kd.R_putg HO_3.out (x4_1 : Int) (rd l0 x4_1)
        go_wp2_with (first | ((with_reducible refine gate_store (t := 3) (p := 20) rfl ?_); refine store_event (t := 3) (p := 20) (v := ?vo_w11) (w1 := (wr.setCell ⟨go9, (x4_1 : Int).toNat, none⟩ (.int .i64 (rd l0 x4_1)))) ?hg ?ho ?hn ?hr ?_; (case ho => rfl); (case hg => rfl); (case hn => rfl); (case hr => first | (go_simp; done) | (go_simp; rfl)); intro w11 hw; have hg : wr.grownBy w11 (some go9) := (by rw [hw]; exact HP10.2); have hp_ : Kd.R (Kd.int .i64) 3 w11 w.heap.size (fun _ => True) (.slice (some ⟨go9, 0, none⟩) x3_1.length co9) y143 := (by rw [hw, Ny143.out]; exact HP10.1); clear HP10; have n0 := aM_ (hp_); have n1 := aM_ ((by rw [hw]; exact below_set (HB.out) GB9.out : Below w.heap.size w w11)); clear HO_3; clear HB; have HO_3 := n0; have HB := n1; clear n0 n1; clear hg hw hp_))
        go_roundg k1
        case measure => have := HK1.out; omega
        case rel => exact ⟨(y143), (wrap64 (x4_1 + 1)), (by first | rfl | (simp; done) | (simp [*]; done)), H', ⟨by have := HK1.out; omega⟩, ⟨by (with_reducible repeat (first | apply rA_ | apply rN_ | apply rD_)); exact HO_3.out⟩, ⟨gW_ HB.out⟩⟩
       ·rw [if_neg c8] at H
        exact absurd H (by simp)
      ·rw [if_neg c7] at H
       exact absurd H (by simp)
     ·rw [if_neg c6] at H
      have c6b0 : decide (x4_1 < (l0.length : Int)) = false := decide_eq_false c6
      clear c6
      obtain rfl := Option.some.inj H
      go_wp2
      go_ret
      exact ⟨_, fR_, by (with_reducible repeat (first | apply rA_ | apply rN_ | apply rD_)); exact HO_3.out, gB_ HB.out⟩
  ·rw [if_neg c3] at H
   exact absurd H (by simp)
 ·rw [if_neg c2] at H
  exact absurd H (by simp)
def laws_toIns.f (a0_0 : Int) (a0_1 : Int) (a0_2 : Int) (a0_3 : Int) (a0_4 : Int) : Option (Int × Int × Int × Int × Int) := some (a0_0, a0_1, a0_2, a0_3, a0_4)
set_option maxHeartbeats 8000000 in
set_option maxRecDepth 100000 in
theorem laws_toIns.calls (a0_0 : Int) (a0_1 : Int) (a0_2 : Int) (a0_3 : Int) (a0_4 : Int) (r1 : Int) (r2 : Int) (r3 : Int) (r4 : Int) (r5 : Int) (w : World) (h : laws_toIns.f a0_0 a0_1 a0_2 a0_3 a0_4 = some (r1, r2, r3, r4, r5)) :
  Calls Try.prog 163 #[.agg #[.int .i64 a0_0, .int .i64 a0_1, .int .i64 a0_2, .int .i64 a0_3, .int .i64 a0_4]] w fun e w' => e = .returned (.agg #[.int .i64 r1, .int .i64 r2, .int .i64 r3, .int .i64 r4, .int .i64 r5]) ∧ Below w.heap.size w w' := by
 have hu208 := Try.underlying208
 have hu192 := Try.underlying192
 have HB := aM_ (Below.refl w.heap.size w)
 have H : (some (a0_0, a0_1, a0_2, a0_3, a0_4)) = some (r1, r2, r3, r4, r5) := h
 clear h
 simp only [Option.some.injEq, Prod.mk.injEq] at H
 obtain ⟨rfl, rfl, rfl, rfl, rfl⟩ := H
 go_enter Try.func163, Try.ntmps163
 go_wp2_with (first | ((with_reducible refine gate_dst (N := 1) rfl ?_); refine bX_ 1 (cs := #[.int .i64 a0_0, .int .i64 a0_1, .int .i64 a0_2, .int .i64 a0_3, .int .i64 a0_4]) (t := 208) ?_; intro gb144 hg w2 hbox hb; have n0 := aM_ (sT_ HB.out hb); have n1 := aM_ (hbox); have n2 := aM_ (sZ_ hg HB.out); have n3 := aM_ (sZ_ hg HB.out); clear HB; have HB := n0; have BK144 := n1; have GW144 := n2; have GE144 := n3; clear n0 n1 n2 n3; clear hb hbox hg) | ((with_reducible refine gate_dst (N := 2) rfl ?_); refine bX_ 2 (cs := #[.int .i64 0, .int .i64 0, .int .i64 0, .int .i64 0, .int .i64 0]) (t := 192) ?_; intro gb145 hg w3 hbox hb; have n0 := aM_ (nB_ BK144.out hb); have n1 := aM_ (sT_ HB.out hb); have n2 := aM_ (hbox); have n3 := aM_ (sZ_ hg HB.out); have n4 := aM_ (sZ_ hg HB.out); have n5 := aM_ (nL_ hg BK144.out); have n6 := aM_ (nG_ hg BK144.out); clear BK144; clear HB; have BK144 := n0; have HB := n1; have BK145 := n2; have GW145 := n3; have GE145 := n4; have NB144_145 := n5; have NB145_144 := n6; clear n0 n1 n2 n3 n4 n5 n6; clear hb hbox hg) | ((with_reducible refine gate_dst (N := 3) rfl ?_); refine bX_ 3 (cs := #[.int .i64 0, .int .i64 0, .int .i64 0, .int .i64 0, .int .i64 0]) (t := 192) ?_; intro gb146 hg w4 hbox hb; have n0 := aM_ (nB_ BK144.out hb); have n1 := aM_ (nB_ BK145.out hb); have n2 := aM_ (sT_ HB.out hb); have n3 := aM_ (hbox); have n4 := aM_ (sZ_ hg HB.out); have n5 := aM_ (sZ_ hg HB.out); have n6 := aM_ (nL_ hg BK144.out); have n7 := aM_ (nG_ hg BK144.out); have n8 := aM_ (nL_ hg BK145.out); have n9 := aM_ (nG_ hg BK145.out); clear BK144; clear BK145; clear HB; have BK144 := n0; have BK145 := n1; have HB := n2; have BK146 := n3; have GW146 := n4; have GE146 := n5; have NB144_146 := n6; have NB146_144 := n7; have NB145_146 := n8; have NB146_145 := n9; clear n0 n1 n2 n3 n4 n5 n6 n7 n8 n9; clear hb hbox hg; have hnb5 := NB144_145.out; have hnc5 := NB145_144.out; have hnb6 := NB144_146.out; have hnc6 := NB146_144.out; obtain ⟨hcz7_0, hcz7_1, hcz7_2, hcz7_3, hcz7_4, hfz7_0, hfz7_1, hfz7_2, hfz7_3, hfz7_4⟩ := bR5_ BK144.out; have hnb8 := NB146_145.out; have hnc8 := NB145_146.out; obtain ⟨hcz9_0, hcz9_1, hcz9_2, hcz9_3, hcz9_4, hfz9_0, hfz9_1, hfz9_2, hfz9_3, hfz9_4⟩ := bR5_ BK146.out; obtain ⟨hcz10_0, hcz10_1, hcz10_2, hcz10_3, hcz10_4, hfz10_0, hfz10_1, hfz10_2, hfz10_3, hfz10_4⟩ := bR5_ BK145.out))
 refine bodyPost_ret (results_cell_row rfl _ _ gb145 192 #[.int .i64 a0_0, .int .i64 a0_1, .int .i64 a0_2, .int .i64 a0_3, .int .i64 a0_4] (0, 0) _ rfl (by (with_reducible repeat (first | refine bN_ ?_ _ | refine bD_ ?_ | refine bA_ ?_ _)); refine blk_put (cs := #[.int .i64 a0_0, .int .i64 a0_1, .int .i64 a0_2, .int .i64 a0_3, .int .i64 0]) ?_ 4 _ rfl; refine blk_put (cs := #[.int .i64 a0_0, .int .i64 a0_1, .int .i64 a0_2, .int .i64 0, .int .i64 0]) ?_ 3 _ rfl; refine blk_put (cs := #[.int .i64 a0_0, .int .i64 a0_1, .int .i64 0, .int .i64 0, .int .i64 0]) ?_ 2 _ rfl; refine blk_put (cs := #[.int .i64 a0_0, .int .i64 0, .int .i64 0, .int .i64 0, .int .i64 0]) ?_ 1 _ rfl; refine blk_put (cs := #[.int .i64 0, .int .i64 0, .int .i64 0, .int .i64 0, .int .i64 0]) ?_ 0 _ rfl; exact rWf_ BK145.out) Try.underlying192 rfl (by kernel_rfl)) rfl ?_
 exact fI_ HB.out
end Go.Proofs.Ytobachfngmpeiaa.PFnExactSourceNew
