/- A part of the proof that the law FnMessage holds for every input: the words, functions and walks that its row needs, without a condition of their own. -/
import Derived.Test.YthbcnakmnbilhaaProg
import Derived.Below
import Derived.Deep.Draws
import Derived.Deep.AppendLies
import Derived.Maps.AppendAt
import Derived.OwnWalk
import Derived.Laws.BytesArg
import Derived.Laws.MakeOwn
import Derived.Laws.OwnMore
import Derived.Deep.OwnRows
import Derived.Tactics
import Derived.Lib.ConvBytes
import Derived.Laws.Slices
import Derived.WalkKit
import Derived.KernelRfl
import Derived.RowKit3
import Derived.Deep.LoopGhost
import Derived.Deep.QuietTactic
import Derived.BigQuiet
import Derived.WideLaws
import Derived.Deep.DeepCutAuto
import Derived.Deep.CutBlock
import Derived.Deep.RegionHeld3
import Derived.Laws.Rows
import Derived.Lib.AppendStr
import Derived.ArgAppend
import Derived.Laws.IdiomCopy
import Derived.OrdersHeld
import Derived.Laws.BitsLemmas
import Derived.RowKit
import Derived.Laws.StructEq
import Derived.Test.YthbcnakmnbilhaaZFnMessagea0
import Derived.Test.YthbcnakmnbilhaaZFnMessagea1
import Derived.Test.YthbcnakmnbilhaaZFnMessages
namespace Go.Proofs.Ythbcnakmnbilhaa.PFnMessage
open Go.RowKit Go.Proofs.YthbcnakmnbilhaaW.PrintWords Go.Proofs.YthbcnakmnbilhaaW.PrintLast Go.Proofs.YthbcnakmnbilhaaW.PrintMore
attribute [local go_sem] max2_int min2_int max_two min_two max_three min_three max_four min_four   -- for this text's walks alone
set_option linter.unusedVariables false
set_option linter.unusedSimpArgs false
def errW : Option Int → Value
  | none => .nilIface
  | some c => .iface 0 (.int .i64 c)
theorem errW_none : errW none = .nilIface := rfl
theorem errW_some (c : Int) : errW (some c) = .iface 0 (.int .i64 c) := rfl
theorem info3 : (Try.prog.info? 3).map (fun i => (i.zero, i.size, i.bytes)) = some (some (.int .i64 0), 1, 8) := by kernel_rfl
theorem info43 : (Try.prog.info? 43).map (fun i => (i.zero, i.size, i.bytes)) = some (some (.agg #[(.int .i64 0), (.slice none 0 0)]), 2, 32) := by kernel_rfl
theorem info44 : (Try.prog.info? 44).map (fun i => (i.zero, i.size, i.bytes)) = some (some (.slice none 0 0), 1, 24) := by kernel_rfl
structure S43 where
  f0 : Int
  f1 : (List Int)
def z43 : S43 := ⟨(0 : Int), ([] : List Int)⟩
def k43 : Kd S43 := Kd.iso (Kd.pair (Kd.int .i64) (Kd.slice 3 (Kd.int .i64))) (fun x : S43 => (x.f0, x.f1))
theorem k43_open {w : World} {x : S43} {cs : List Value} (h : k43.K w x cs) : ∃ A1 c1, cs = [.int .i64 x.f0, .slice A1 x.f1.length c1] ∧ x.f1.length ≤ c1 ∧ (Kd.int .i64).C w A1 x.f1.length x.f1 := by
 obtain ⟨_, _, rfl, rfl, ⟨A1, c1, rfl, l1, g1⟩⟩ := h
 exact ⟨A1, c1, rfl, l1, g1⟩
theorem k43_mk (w : World) (x : S43) {A1 : Option Addr} {c1 : Nat} (l1 : x.f1.length ≤ c1) (g1 : (Kd.int .i64).C w A1 x.f1.length x.f1) : k43.K w x [.int .i64 x.f0, .slice A1 x.f1.length c1] := ⟨[.int .i64 x.f0], [.slice A1 x.f1.length c1], rfl, rfl, ⟨A1, c1, rfl, l1, g1⟩⟩
theorem k43_mkM (w : World) (base : Nat) (ok : Nat → Prop) (x : S43) {v1 : Value} (g1 : (Kd.int .i64).R 3 w base ok v1 x.f1) : k43.M w base ok x [.int .i64 x.f0, v1] := ⟨[.int .i64 x.f0], [v1], rfl, rfl, ⟨v1, rfl, g1⟩⟩
theorem k43_mkF (W : World) (ok : Nat → Prop) (x : S43) {A1 : Option Addr} {c1 : Nat} (l1 : x.f1.length ≤ c1) (g1 : Kd.F (Kd.int .i64) W ok A1 x.f1.length x.f1) : Kd.FK k43 W ok x [.int .i64 x.f0, .slice A1 x.f1.length c1] := fun W2 hW => k43_mk W2 x l1 (g1 W2 hW)
def rd_T43 (xs : List S43) (i : Int) : S43 := xs.getD i.toNat z43
theorem at_T43 {w : World} {A : Option Addr} {n : Nat} {xs : List S43} (h : Kd.C k43 w A n xs) (i : Int) (h0 : 0 ≤ i) (h1 : i < n) : ∃ ad A1 c1, A = some ad ∧ w.cell? (ad.add (i.toNat * 2)) = some (.int .i64 (rd_T43 xs i).f0) ∧ w.cell? ⟨(ad.add (i.toNat * 2)).block, (ad.add (i.toNat * 2)).off + 1, none⟩ = some (.slice A1 (rd_T43 xs i).f1.length c1) ∧ (rd_T43 xs i).f1.length ≤ c1 ∧ (Kd.int .i64).C w A1 (rd_T43 xs i).f1.length (rd_T43 xs i).f1 := by
 obtain ⟨ad, c, e, _, hK, hc0⟩ := Kd.C_get h z43 i h0 h1
 have hc : ∀ j u, c[j]? = some u → w.cell? (ad.add (i.toNat * 2 + j)) = some u := hc0
 obtain ⟨A1, c1, rfl, l1, g1⟩ := k43_open hK
 exact ⟨ad, A1, c1, e, hc 0 _ rfl, by rw [← add_field _ _ 1 (by omega)]; exact hc 1 _ rfl, l1, g1⟩
def rd_L3 (xs : List (List S43)) (i : Int) : (List S43) := xs.getD i.toNat ([] : List S43)
theorem at_L3 {w : World} {A : Option Addr} {n : Nat} {xs : List (List S43)} (h : Kd.C (Kd.slice 43 k43) w A n xs) (i : Int) (h0 : 0 ≤ i) (h1 : i < n) : ∃ ad A0 c0, A = some ad ∧ w.cell? (ad.add i.toNat) = some (.slice A0 (rd_L3 xs i).length c0) ∧ (rd_L3 xs i).length ≤ c0 ∧ k43.C w A0 (rd_L3 xs i).length (rd_L3 xs i) := by
 obtain ⟨ad, c, e, _, hK, hc0⟩ := Kd.C_get h ([] : List S43) i h0 h1
 have hc : ∀ j u, c[j]? = some u → w.cell? (ad.add (i.toNat * 1 + j)) = some u := hc0
 obtain ⟨A0, c0, rfl, l0, g0⟩ := hK
 exact ⟨ad, A0, c0, e, by have hq := hc 0 _ rfl; rwa [Nat.mul_one, Nat.add_zero] at hq, l0, g0⟩
end Go.Proofs.Ythbcnakmnbilhaa.PFnMessage
namespace Go.Proofs.Ythbcnakmnbilhaa.PFnMessage
open Go.RowKit Go.Proofs.YthbcnakmnbilhaaW.PrintWords Go.Proofs.YthbcnakmnbilhaaW.PrintLast Go.Proofs.YthbcnakmnbilhaaW.PrintMore
attribute [local go_sem] max2_int min2_int max_two min_two max_three min_three max_four min_four   -- for this text's walks alone
set_option linter.unusedVariables false
set_option linter.unusedSimpArgs false
def impl_MemoryNew.l0 : Nat → Int → List (List (S43)) → Option ((List (List (S43))))
  | 0, _, _ => none
  | k + 1, x3, x103000 => if x3 < 24 then (if 24 ≤ 35184372088832 then (if x103000.length < 5864062014805 then (impl_MemoryNew.l0 k (wrap64 (x3 + 1)) (x103000 ++ [(([(⟨0, (List.replicate 24 0)⟩ : S43)] : List (S43)))])) else (none)) else (none)) else (some x103000)
def impl_MemoryNew.f (k : Nat)  : Option ((List (List (S43)))) := impl_MemoryNew.l0 k 0 ([] : List (List (S43)))
def impl_MemoryNew.T4 : Bool × List (List Nat × List Nat) := (true, [([], []), ([0], [0]), ([], []), ([2], [2]), ([3], [3]), ([4], [4]), ([1, 5], [1, 5]), ([0, 1, 2, 3, 4, 5, 6], []), ([7, 6, 6, 0, 1, 2, 3, 4, 5, 6], [6, 7])])
def impl_MemoryNew.B4 : List Nat := [0, 1, 0, 4, 12, 28, 63, 127, 255]
theorem impl_MemoryNew.tab4 : rtab .any (opsOf Try.f14 4) = impl_MemoryNew.T4 := by kernel_rfl
theorem impl_MemoryNew.bits4 : waitsOk impl_MemoryNew.T4.2 impl_MemoryNew.B4 = true := by kernel_rfl
set_option maxHeartbeats 8000000 in
set_option maxRecDepth 100000 in
theorem impl_MemoryNew.calls (k : Nat)  (r : List (List (S43))) (w : World) (h : impl_MemoryNew.f k  = some r) :
  Calls Try.prog 14 #[] w fun e w' => ∃ v0_ : Value, e = .returned (.agg #[v0_]) ∧ Kd.N (Kd.slice 43 k43) 44 w' w.heap.size (fun k_ => (w.heap.size ≤ k_)) v0_ r ∧ Below w.heap.size w w' := by
 have hu24 := Try.underlying24
 have hu43 := Try.underlying43
 have HB := aM_ (Below.refl w.heap.size w)
 have H : (impl_MemoryNew.l0 k 0 ([] : List (List (S43)))) = some r := h
 clear h
 have H' := aM_ H
 clear H
 go_enter Try.func14, Try.ntmps14
 go_wp2_with (first | ((with_reducible refine gate_dst (N := 0) rfl ?_); refine bX_ 0 (cs := #[.slice none 0 0]) (t := 24) ?_; intro gb101 hg w1 hbox hb; have n0 := aM_ (sT_ HB.out hb); have n1 := aM_ (hbox); have n2 := aM_ (sZ_ hg HB.out); have n3 := aM_ (sZ_ hg HB.out); clear HB; have HB := n0; have BK101 := n1; have GW101 := n2; have GE101 := n3; clear n0 n1 n2 n3; clear hb hbox hg) | ((with_reducible refine gate_dst (N := 1) rfl ?_); refine bX_ 1 (cs := #[.slice none 0 0]) (t := 24) ?_; intro gb102 hg w2 hbox hb; have n0 := aM_ (nB_ BK101.out hb); have n1 := aM_ (sT_ HB.out hb); have n2 := aM_ (hbox); have n3 := aM_ (sZ_ hg HB.out); have n4 := aM_ (sZ_ hg HB.out); have n5 := aM_ (nL_ hg BK101.out); have n6 := aM_ (nG_ hg BK101.out); clear BK101; clear HB; have BK101 := n0; have HB := n1; have BK102 := n2; have GW102 := n3; have GE102 := n4; have NB101_102 := n5; have NB102_101 := n6; clear n0 n1 n2 n3 n4 n5 n6; clear hb hbox hg; have hnb3 := NB102_101.out; have hnc3 := NB101_102.out; have hcz4_0 : w2.cell? ⟨gb102, 0, none⟩ = some (.slice none 0 0) := (blk_cell BK102.out 0).trans rfl; have hfz4_0 := blk_frozen BK102.out 0))
 go_loopg [3] k (fun kq v3 w' => ∃ (x3_1 : Int) (x1030_1 : List (List (S43))) (u1030 : Value), v3 = .int .i64 x3_1 ∧ Aside0 (impl_MemoryNew.l0 kq x3_1 x1030_1 = some r) ∧ Aside0 (kq ≤ k) ∧ Aside0 (Kd.N (Kd.slice 43 k43) 44 w' w.heap.size (fun k_ => (w.heap.size ≤ k_) ∧ k_ ≠ gb101 ∧ k_ ≠ gb102) u1030 x1030_1) ∧ Aside0 (w'.heap[gb101]? = some (.cells #[(.slice none 0 0)] 24 (0, 0))) ∧ Aside0 (w'.heap[gb102]? = some (.cells #[u1030] 24 (0, 0))) ∧ Aside0 (Below w.heap.size w w'))
 case atStart => exact ⟨(0), (([] : List (List (S43)))), (.slice none 0 0), (by first | rfl | (simp; done) | (simp [*]; done)), H', ⟨Nat.le_refl _⟩, ⟨by first | exact Kd.R_nil _ _ _ _ _ | exact Kd.N_nil _ _ _ _ _ | exact Kd.V_nil _ _ _ _ _ | exact Kd.Q_nil _ _ _ _ _ | exact Kd.S_nil _ _ _ _ _⟩, ⟨by (with_reducible repeat (first | refine bN_ ?_ _ | refine bD_ ?_ | refine bA_ ?_ _)); refine blk_far ?_ NB101_102.out _; (with_reducible repeat (first | refine bN_ ?_ _ | refine bD_ ?_ | refine bA_ ?_ _)); exact BK101.out⟩, ⟨by (with_reducible repeat (first | refine bN_ ?_ _ | refine bD_ ?_ | refine bA_ ?_ _)); refine blk_put (cs := #[.slice none 0 0]) ?_ 0 _ rfl; (with_reducible repeat (first | refine bN_ ?_ _ | refine bD_ ?_ | refine bA_ ?_ _)); exact BK102.out⟩, ⟨gW_ HB.out⟩⟩
 case round =>
  clear H'
  try clear c1
  try clear p2
  try clear c3
  try clear hcz4_0 hfz4_0
  obtain ⟨x3_1, x1030_1, u1030, rfl, HA, HK1, HO_103000, BK101, BK102, HB⟩ := hrel
  cases gk with
  | zero => exact absurd HA.out (by simp [impl_MemoryNew.l0])
  | succ k1 =>
   have H := HA.out
   clear HA
   simp only [impl_MemoryNew.l0] at H
   by_cases c5 : x3_1 < 24
   ·rw [if_pos c5] at H
    have c5b0 : decide (x3_1 < 24) = true := decide_eq_true c5
    clear c5
    by_cases c6 : 24 ≤ 35184372088832
    ·rw [if_pos c6] at H
     have c6b0 := eq_true c6
     have c6b1 : decide (24 ≤ 35184372088832) = true := decide_eq_true c6
     clear c6
     obtain ⟨y103, hy103⟩ : ∃ y_ : List Int, y_ = (List.replicate 24 0) := ⟨_, rfl⟩
     replace H : (if x1030_1.length < 5864062014805 then (impl_MemoryNew.l0 k1 (wrap64 (x3_1 + 1)) (x1030_1 ++ [(([(⟨0, y103⟩ : S43)] : List (S43)))])) else (none)) = some r := by first | (rw [hy103]; with_reducible exact H) | (have H2_ := (Option.bind_some _ _).symm.trans H; rw [hy103]; with_reducible exact H2_) | (have H2_ := (Option.bind_some _ _).symm.trans H; with_reducible exact H2_) | with_reducible exact H | (rw [hy103]; exact H) | exact H
     have Ny103 := aM_ hy103
     clear hy103
     obtain ⟨y106, hy106⟩ : ∃ y_ : List (S43), y_ = (([(⟨0, y103⟩ : S43)] : List (S43))) := ⟨_, rfl⟩
     replace H : (if x1030_1.length < 5864062014805 then (impl_MemoryNew.l0 k1 (wrap64 (x3_1 + 1)) (x1030_1 ++ [y106])) else (none)) = some r := by first | (rw [hy106]; with_reducible exact H) | (have H2_ := (Option.bind_some _ _).symm.trans H; rw [hy106]; with_reducible exact H2_) | (have H2_ := (Option.bind_some _ _).symm.trans H; with_reducible exact H2_) | with_reducible exact H | (rw [hy106]; exact H) | exact H
     have Ny106 := aM_ hy106
     clear hy106
     by_cases c7 : x1030_1.length < 5864062014805
     ·rw [if_pos c7] at H
      have LMc7 := aM_ c7
      clear c7
      obtain ⟨y109, hy109⟩ : ∃ y_ : List (List (S43)), y_ = (x1030_1 ++ [y106]) := ⟨_, rfl⟩
      replace H : (impl_MemoryNew.l0 k1 (wrap64 (x3_1 + 1)) y109) = some r := by first | (rw [hy109]; with_reducible exact H) | (have H2_ := (Option.bind_some _ _).symm.trans H; rw [hy109]; with_reducible exact H2_) | (have H2_ := (Option.bind_some _ _).symm.trans H; with_reducible exact H2_) | with_reducible exact H | (rw [hy109]; exact H) | exact H
      have Ny109 := aM_ hy109
      clear hy109
      have H' := aM_ H
      clear H
      try go_wp2
      have n0 := aM_ (Kd.N_drew HO_103000.out)
      have n1 := aM_ (blk_drew BK101.out)
      have n2 := aM_ (blk_drew BK102.out)
      have n3 := aM_ (below_drew1 HB.out)
      clear HO_103000
      clear BK101
      clear BK102
      clear HB
      have HO_103000 := n0
      have BK101 := n1
      have BK102 := n2
      have HB := n3
      clear n0 n1 n2 n3
      refine start_ (n := 9) (S := fun w' => w'.cell? ⟨gb102, 0, none⟩ = some (u1030)) (ds := [8]) #[false, false, false, false, false, false, false, false, false] (by kernel_rfl) rfl rfl ((blk_cell BK102.out 0).trans rfl) (fun hHeld => ?_); refine with_tabW impl_MemoryNew.tab4 impl_MemoryNew.bits4 (fun HT_ HW_ => ?_)
      generalize wr.drew = w8 at HO_103000 BK101 BK102 HB hHeld ⊢
      refine pU_ 0 (some 5) (mk_ 9 1) ?_
      refine take_ (i := 1) (N := some 6) (v := ?_) (a' := ?_) #[true, true, false, false, false, false, false, false, false] rfl rfl (take_ofW HT_.out HW_.out (by kernel_rfl)) (fun _ _ _ h => h) (Or.inl ⟨by rfl, ?_⟩) hHeld ?_ ?_
      rotate_left
      ·intro w' s0
       go_simp
       with_reducible rfl
      rotate_left
      ·simp only [pt_, pn_, sI_, s0_, s1_, i64_w, i32_w]
       rfl
      refine oN_ 2 (some 7) (mk_ 9 7) (fun K hK => ?_)
      refine Kd.R_make_step (Kd.int .i64) _ 3 (by rfl) (N := 7) rfl 31 _ _ rfl 24 rfl rfl Try.underlying31 (.int .i64 0) 8 info3 rfl (by decide) (by omega) 0 (ok := fun _ => True) (okp := fun _ => True) rfl (fun _ hk => hk) trivial (by omega) (by omega) (Below.refl _ _) (Nat.le_refl _) ?_
      intro v104 w9 ho10 hb hg_ hnew_
      clear hg_ hnew_
      (first | rw [← Ny103.out] at ho10 | (simp only [Int.reduceToNat] at ho10; rw [← Ny103.out] at ho10))
      have n0 := aM_ (Kd.N_elder' (by (with_reducible repeat (first | apply Kd.N_alloc | apply Kd.N_drewN | apply Kd.N_drew)); exact HO_103000.out) (Kd.R_base ho10) hb)
      have n1 := aM_ (Kd.R_lower (Kd.R_newM (M := fun k_ => (w.heap.size ≤ k_)) ho10 (below_size (gB_ HB.out)) (fun k_ h_ => h_)) (below_size (gB_ HB.out)))
      have n2 := aM_ (nB_ BK101.out hb)
      have n3 := aM_ (nB_ BK102.out hb)
      have n4 := aM_ (sT_ HB.out hb)
      clear HO_103000
      clear BK101
      clear BK102
      clear HB
      have HO_103000 := n0
      have HO105 := n1
      have BK101 := n2
      have BK102 := n3
      have HB := n4
      clear n0 n1 n2 n3 n4
      clear hb ho10
      obtain ⟨Ao11, co11, eo11⟩ := Kd.R_slice HO105.out
      (first | subst eo11 | (injection eo11 with f1_ f2_ f3_; have f4_ := f1_.symm; have f5_ := f3_.symm; clear f1_ f2_ f3_; subst f4_; subst f5_))
      refine hK.out _ _ ((blk_cell BK102.out 0).trans rfl) (fun hHeld => ?_)
      clear hK K
      refine norm_ (a' := ?_) ?_ ?_
      rotate_left
      ·show Act.put _ (some 7) _ = _
       simp only [pt_, pn_, sI_, s0_, s1_, i64_w, i32_w]
       rfl
      refine pU_ 3 (some 8) (mk_ 9 15) ?_
      refine oN_ 4 (some 9) (mk_ 9 31) (fun K hK => ?_)
      refine Kd.N_lit_step k43 _ 43 ?hg (N' := 9) ?hd (xs := ([(⟨0, y103⟩ : S43)] : List (S43))) (inner := [.int .i64 0, .slice Ao11 y103.length co11]) (ok := (fun k_ => (w.heap.size ≤ k_) ∧ some k_ ≠ (u1030 : Value).ownBlock ∧ k_ ≠ gb101 ∧ k_ ≠ gb102)) (okp := (fun k_ => (w.heap.size ≤ k_) ∧ some k_ ≠ (u1030 : Value).ownBlock ∧ k_ ≠ gb101 ∧ k_ ≠ gb102)) ?hr ?hp (fun _ hk => hk) ((show ∀ k_, w9.heap.size ≤ k_ → (fun k_ => (w.heap.size ≤ k_) ∧ some k_ ≠ (u1030 : Value).ownBlock ∧ k_ ≠ gb101 ∧ k_ ≠ gb102) k_ from fun k_ hk => ⟨(Nat.le_trans (below_size (gB_ HB.out)) hk), Kd.fresh' (Kd.N_lt (by (with_reducible repeat (first | apply Kd.N_alloc | apply Kd.N_drewN | apply Kd.N_drew)); exact HO_103000.out)) k_ hk, Kd.freshB (g := gb101) (o := .cells #[.slice none 0 0] 24 (0, 0)) (by (with_reducible repeat (first | refine bN_ ?_ _ | refine bD_ ?_ | refine bA_ ?_ _)); exact BK101.out) k_ hk, Kd.freshB (g := gb102) (o := .cells #[u1030] 24 (0, 0)) (by (with_reducible repeat (first | refine bN_ ?_ _ | refine bD_ ?_ | refine bA_ ?_ _)); exact BK102.out) k_ hk⟩) _ (Nat.le_refl _)) (Below.refl _ _) (Nat.le_refl _) (by simp) ?_; (case hd => rfl); (case hg => rfl); (case hr => first | (go_simp; done) | (go_simp; rfl)); (case hp => exact (Reps.c2 (show Kd.FK k43 _ _ (⟨0, y103⟩ : S43) [.int .i64 0, .slice Ao11 y103.length co11] from (k43_mkF _ _ (⟨0, y103⟩ : S43) (Kd.R_reads' (Kd.R_mono (ok' := (fun k_ => (w.heap.size ≤ k_) ∧ some k_ ≠ (u1030 : Value).ownBlock ∧ k_ ≠ gb101 ∧ k_ ≠ gb102)) (Kd.R_types (Kd.R_types (Kd.R_apart' (HO105.out) (Kd.N_typed HO_103000.out) (by decide)) BK101.out (by decide)) BK102.out (by decide)) (fun k_ hk => ⟨hk.1.1.1.1, ⟨hk.1.1.2, ⟨hk.1.2, hk.2⟩⟩⟩))).2.1 (Kd.R_F (Kd.R_mono (ok' := (fun k_ => (w.heap.size ≤ k_) ∧ some k_ ≠ (u1030 : Value).ownBlock ∧ k_ ≠ gb101 ∧ k_ ≠ gb102)) (Kd.R_types (Kd.R_types (Kd.R_apart' (HO105.out) (Kd.N_typed HO_103000.out) (by decide)) BK101.out (by decide)) BK102.out (by decide)) (fun k_ hk => ⟨hk.1.1.1.1, ⟨hk.1.1.2, ⟨hk.1.2, hk.2⟩⟩⟩))))) (Reps.none _ _)))
      intro v107 w12 ho13 hb hg_ hnew_
      clear hg_ hnew_
      (first | rw [← Ny106.out] at ho13 | (simp only [Int.reduceToNat] at ho13; rw [← Ny106.out] at ho13))
      have n0 := aM_ (Kd.N_elder' (by (with_reducible repeat (first | apply Kd.N_alloc | apply Kd.N_drewN | apply Kd.N_drew)); exact HO_103000.out) (Kd.N_base ho13) hb)
      have n1 := aM_ (Kd.N_lower ho13 (below_size (gB_ HB.out)))
      have n2 := aM_ (nB_ BK101.out hb)
      have n3 := aM_ (nB_ BK102.out hb)
      have n4 := aM_ (sT_ HB.out hb)
      clear HO_103000
      clear BK101
      clear BK102
      clear HB
      clear HO105
      have HO_103000 := n0
      have HO108 := n1
      have BK101 := n2
      have BK102 := n3
      have HB := n4
      clear n0 n1 n2 n3 n4
      clear hb ho13
      obtain ⟨Ao15, co15, eo15⟩ := Kd.N_slice HO108.out
      (first | subst eo15 | (injection eo15 with f1_ f2_ f3_; have f4_ := f1_.symm; have f5_ := f3_.symm; clear f1_ f2_ f3_; subst f4_; subst f5_))
      refine hK.out _ _ ((blk_cell BK102.out 0).trans rfl) (fun hHeld => ?_)
      clear hK K
      refine norm_ (a' := ?_) ?_ ?_
      rotate_left
      ·show Act.put _ (some 9) _ = _
       simp only [pt_, pn_, sI_, s0_, s1_, i64_w, i32_w]
       rfl
      refine oN_ 5 (some 10) (mk_ 9 63) (fun K hK => ?_)
      refine value_ (w1 := ?_) (v := ?_) (by rfl) rfl ?_ ?_
      rotate_left 2
      ·go_simp
       constructor
       ·rfl
       ·rfl
      refine hK.out _ _ ((blk_cell (blk_alloc BK102.out _) 0).trans rfl) (fun hHeld => ?_)
      clear hK K
      refine norm_ (a' := ?_) ?_ ?_
      rotate_left
      ·show Act.put _ (some 10) _ = _
       simp only [pt_, pn_, sI_, s0_, s1_, i64_w, i32_w]
       rfl
      refine oN_ 6 (some 11) (mk_ 9 127) (fun K hK => ?_)
      refine Kd.N_append_step (Kd.slice 43 k43) (w0 := w) w.heap.size (by rfl) (.tmp 6) (.tmp 10) 22 44 (.slice none 0 0) 24 rfl Try.underlying22 info44 rfl (by decide) (by omega) u1030 x1030_1 y106 [.slice Ao15 y106.length co15] (fun k_ => (w.heap.size ≤ k_) ∧ k_ ≠ gb101 ∧ k_ ≠ gb102) (fun k_ => ((fun k_ => (w.heap.size ≤ k_) ∧ k_ ≠ gb101 ∧ k_ ≠ gb102)) k_ ∧ some k_ ≠ (u1030 : Value).ownBlock) rfl rfl ?aP (fun _ hk => hk) ?aF ?aO ?aB ?aS ?aL ?_
      (case aP => exact (Kd.FK_slice_mk (Kd.N_reads' (Kd.N_mono (ok' := (fun k_ => ((fun k_ => (w.heap.size ≤ k_) ∧ k_ ≠ gb101 ∧ k_ ≠ gb102)) k_ ∧ some k_ ≠ (u1030 : Value).ownBlock)) (HO108.out) (fun k_ hk => ⟨⟨hk.1, ⟨hk.2.2.1, hk.2.2.2⟩⟩, hk.2.1⟩))).2.1 (Kd.N_F (Kd.N_mono (ok' := (fun k_ => ((fun k_ => (w.heap.size ≤ k_) ∧ k_ ≠ gb101 ∧ k_ ≠ gb102)) k_ ∧ some k_ ≠ (u1030 : Value).ownBlock)) (HO108.out) (fun k_ hk => ⟨⟨hk.1, ⟨hk.2.2.1, hk.2.2.2⟩⟩, hk.2.1⟩)))))
      (case aB => exact (gB_ HB.out))
      (case aF => exact (fun k_ hk => ⟨(Nat.le_trans (below_size (gB_ HB.out)) hk), Kd.freshB (g := gb101) (o := .cells #[.slice none 0 0] 24 (0, 0)) (by (with_reducible repeat (first | refine bN_ ?_ _ | refine bD_ ?_ | refine bA_ ?_ _)); exact BK101.out) k_ hk, Kd.freshB (g := gb102) (o := .cells #[u1030] 24 (0, 0)) (by (with_reducible repeat (first | refine bN_ ?_ _ | refine bD_ ?_ | refine bA_ ?_ _)); exact BK102.out) k_ hk⟩))
      (case aO => exact (by (with_reducible repeat (first | apply Kd.N_alloc | apply Kd.N_drewN | apply Kd.N_drew)); exact Kd.N_mono HO_103000.out (fun _ hk => ⟨hk.1.1.1, ⟨hk.1.1.2.1, hk.1.1.2.2⟩⟩)))
      (case aS => exact (below_size (gB_ HB.out)))
      (case aL => have := LMc7.out; omega)
      intro v110 w14 ho hb hg hat
      rw [← Ny109.out] at ho
      have n0 := aM_ (blk_grown (g := gb101) (o := .cells #[.slice none 0 0] 24 (0, 0)) (by (with_reducible repeat (first | refine bN_ ?_ _ | refine bD_ ?_ | refine bA_ ?_ _)); exact BK101.out) hg (Kd.N_ne HO_103000.out BK101.out (by decide)))
      have n1 := aM_ (blk_grown (g := gb102) (o := .cells #[u1030] 24 (0, 0)) (by (with_reducible repeat (first | refine bN_ ?_ _ | refine bD_ ?_ | refine bA_ ?_ _)); exact BK102.out) hg (Kd.N_ne HO_103000.out BK102.out (by decide)))
      have n2 := aM_ (hb)
      have n3 := aM_ (ho)
      clear BK101
      clear BK102
      clear HB
      clear HO_103000
      clear HO108
      have BK101 := n0
      have BK102 := n1
      have HB := n2
      have HO111 := n3
      clear n0 n1 n2 n3
      clear ho hb hg hat
      obtain ⟨Ao16, co16, eo16⟩ := Kd.N_slice HO111.out
      (first | subst eo16 | (injection eo16 with f1_ f2_ f3_; have f4_ := f1_.symm; have f5_ := f3_.symm; clear f1_ f2_ f3_; subst f4_; subst f5_))
      refine hK.out _ _ ((blk_cell BK102.out 0).trans rfl) (fun hHeld => ?_)
      clear hK K
      refine norm_ (a' := ?_) ?_ ?_
      rotate_left
      ·show Act.put _ (some 11) _ = _
       simp only [pt_, pn_, sI_, s0_, s1_, i64_w, i32_w]
       rfl
      refine pU_ 7 (some 12) (mk_ 9 255) ?_
      refine last_ (i := 8) (N := none) #[true, true, true, true, true, true, true, true, true] rfl rfl (one_of HT_.out (by kernel_rfl)) (by decide) (fun K hK => ?_)
      have hs17 : w14.cell? ⟨gb102, 0, none⟩ = some (u1030) := (blk_cell BK102.out 0).trans rfl
      have hfs17 := blk_frozen BK102.out 0
      have hns17_0 := NB101_102.out
      have hms17_0 := NB102_101.out
      refine skip_ (w1 := ?_) (by rfl) rfl ?_ ?_
      rotate_left
      ·go_simp
       rfl
      refine hK.out _ _ ?_
      clear hK K
      refine done_ (done_of HT_.out (by kernel_rfl)) ?_
      try go_wp2
      go_roundg k1
      case measure => have := HK1.out; omega
      case rel => exact ⟨(wrap64 (x3_1 + 1)), (y109), (.slice Ao16 y109.length co16), (by first | rfl | (simp; done) | (simp [*]; done)), H', ⟨by have := HK1.out; omega⟩, ⟨by (with_reducible repeat (first | apply Kd.N_alloc | apply Kd.N_drewN | apply Kd.N_drew)); exact Kd.N_mono (Kd.N_far (p := ⟨gb102, 0, none⟩) (Kd.N_mono HO111.out (fun k_ hk => (⟨hk, hk.2.2⟩ : _ ∧ k_ ≠ gb102))) (fun _ hk => hk.2) (.slice Ao16 y109.length co16)) (fun _ hk => ⟨hk.1.1, ⟨hk.1.2.1, hk.1.2.2⟩⟩)⟩, ⟨by (with_reducible repeat (first | refine bN_ ?_ _ | refine bD_ ?_ | refine bA_ ?_ _)); refine blk_far ?_ NB101_102.out _; (with_reducible repeat (first | refine bN_ ?_ _ | refine bD_ ?_ | refine bA_ ?_ _)); exact BK101.out⟩, ⟨by (with_reducible repeat (first | refine bN_ ?_ _ | refine bD_ ?_ | refine bA_ ?_ _)); refine blk_put (cs := #[u1030]) ?_ 0 _ rfl; (with_reducible repeat (first | refine bN_ ?_ _ | refine bD_ ?_ | refine bA_ ?_ _)); exact BK102.out⟩, ⟨gW_ HB.out⟩⟩
     ·rw [if_neg c7] at H
      exact absurd H (by simp)
    ·rw [if_neg c6] at H
     exact absurd H (by simp)
   ·rw [if_neg c5] at H
    have c5b0 : decide (x3_1 < 24) = false := decide_eq_false c5
    clear c5
    obtain rfl := Option.some.inj H
    have hnb18 := NB102_101.out
    have hnc18 := NB101_102.out
    have hcz19_0 : wr.cell? ⟨gb102, 0, none⟩ = some (u1030) := (blk_cell BK102.out 0).trans rfl
    have hfz19_0 := blk_frozen BK102.out 0
    obtain ⟨Ao20, co20, eo20⟩ := Kd.N_slice HO_103000.out
    subst eo20
    have hcz21_0 : wr.cell? ⟨gb101, 0, none⟩ = some (.slice none 0 0) := (blk_cell BK101.out 0).trans rfl
    have hfz21_0 := blk_frozen BK101.out 0
    go_wp2
    refine bodyPost_ret (results_cell_row rfl _ _ gb101 24 #[.slice Ao20 x1030_1.length co20] (0, 0) _ rfl (by (with_reducible repeat (first | refine bN_ ?_ _ | refine bD_ ?_ | refine bA_ ?_ _)); refine blk_put (cs := #[.slice none 0 0]) ?_ 0 _ rfl; exact rW_ BK101.out) Try.underlying24 rfl (by kernel_rfl)) rfl ?_
    exact ⟨_, fR_, by (with_reducible repeat (first | apply Kd.N_alloc | apply Kd.N_drewN | apply Kd.N_drew)); exact Kd.N_mono (Kd.N_far (p := ⟨gb101, 0, none⟩) (Kd.N_mono HO_103000.out (fun k_ hk => (⟨hk, hk.2.1⟩ : _ ∧ k_ ≠ gb101))) (fun _ hk => hk.2) (.slice Ao20 x1030_1.length co20)) (fun _ hk => hk.1.1), gB_ HB.out⟩
def laws_big.f (l0 : List Int) : Option (Bool) := some (decide ((l0.length : Int) > 1048576))
set_option maxHeartbeats 8000000 in
set_option maxRecDepth 100000 in
theorem laws_big.calls (A0 : Option Addr) (c0 : Nat) (l0 : List Int) (r : Bool) (w : World) (hr0 : Kd.C (Kd.int .u8) w A0 l0.length l0) (hc0 : l0.length ≤ c0) (h : laws_big.f l0 = some r) :
  Calls Try.prog 18 #[.slice A0 l0.length c0] w fun e w' => e = .returned (.bool r) ∧ Drawn0 w w' := by
 have HR0 := aM_ hr0
 have HC0 := aM_ hc0
 clear hr0 hc0
 have H : (some (decide ((l0.length : Int) > 1048576))) = some r := h
 clear h
 obtain rfl := Option.some.inj H
 go_enter Try.func18, Try.ntmps18
 go_wp2
 go_ret
 exact ⟨by first | rfl | (simp; done) | (simp [*]; done), by repeat (first | exact Drawn0.refl _ | apply Drawn0.step)⟩
def laws_at.f (l0 : List Int) (a1 : Int) : Option (Int) := if a1 < (l0.length : Int) then (if 0 ≤ a1 then (some (wrap64 (rd l0 a1))) else (none)) else (some (Int.tmod (wrap64 ((wrap64 (a1 * 7)) + (l0.length : Int))) 256))
set_option maxHeartbeats 8000000 in
set_option maxRecDepth 100000 in
theorem laws_at.calls (A0 : Option Addr) (c0 : Nat) (l0 : List Int) (a1 : Int) (r : Int) (w : World) (hr0 : Kd.C (Kd.int .u8) w A0 l0.length l0) (hc0 : l0.length ≤ c0) (h : laws_at.f l0 a1 = some r) :
  Calls Try.prog 19 #[.slice A0 l0.length c0, .int .i64 a1] w fun e w' => e = .returned (.int .i64 r) ∧ Drawn0 w w' := by
 have HR0 := aM_ hr0
 have HC0 := aM_ hc0
 clear hr0 hc0
 have H : (if a1 < (l0.length : Int) then (if 0 ≤ a1 then (some (wrap64 (rd l0 a1))) else (none)) else (some (Int.tmod (wrap64 ((wrap64 (a1 * 7)) + (l0.length : Int))) 256))) = some r := h
 clear h
 by_cases c3 : a1 < (l0.length : Int)
 ·rw [if_pos c3] at H
  have c3b0 : decide (a1 < (l0.length : Int)) = true := decide_eq_true c3
  clear c3
  by_cases c4 : 0 ≤ a1
  ·rw [if_pos c4] at H
   have c4b0 : decide (0 ≤ a1) = true := decide_eq_true c4
   clear c4
   obtain rfl := Option.some.inj H
   have p112 : 0 ≤ (a1 : Int) := of_decide_eq_true (by first | (with_reducible assumption) | assumption)
   have q112 : a1 < (l0.length : Int) := of_decide_eq_true (by first | (with_reducible assumption) | assumption)
   obtain ⟨ad112, e112, hx112_0⟩ := Kd.at_int HR0.out a1 p112 q112
   cases e112
   replace p112 := eq_true p112
   replace q112 := eq_true q112
   go_enter Try.func19, Try.ntmps19
   go_wp2
   go_ret
   exact ⟨by first | rfl | (simp; done) | (simp [*]; done), by repeat (first | exact Drawn0.refl _ | apply Drawn0.step)⟩
  ·rw [if_neg c4] at H
   exact absurd H (by simp)
 ·rw [if_neg c3] at H
  have c3b0 : decide (a1 < (l0.length : Int)) = false := decide_eq_false c3
  clear c3
  obtain rfl := Option.some.inj H
  go_enter Try.func19, Try.ntmps19
  go_wp2
  go_ret
  exact ⟨by first | rfl | (simp; done) | (simp [*]; done), by repeat (first | exact Drawn0.refl _ | apply Drawn0.step)⟩
def impl_within.f (a0 : Int) (a1 : Int) (a2 : Int) : Option (Bool) := if a0 ≥ a1 then (some (decide (a0 ≤ a2))) else (some false)
set_option maxHeartbeats 8000000 in
set_option maxRecDepth 100000 in
theorem impl_within.calls (a0 : Int) (a1 : Int) (a2 : Int) (r : Bool) (w : World) (h : impl_within.f a0 a1 a2 = some r) :
  Calls Try.prog 68 #[.int .i64 a0, .int .i64 a1, .int .i64 a2] w fun e w' => e = .returned (.bool r) ∧ Drawn0 w w' := by
 have H : (if a0 ≥ a1 then (some (decide (a0 ≤ a2))) else (some false)) = some r := h
 clear h
 by_cases c4 : a0 ≥ a1
 ·rw [if_pos c4] at H
  have c4b0 : decide (a1 ≤ a0) = true := decide_eq_true c4
  clear c4
  obtain rfl := Option.some.inj H
  go_enter Try.func68, Try.ntmps68
  go_wp2
  go_ret
  exact ⟨by first | rfl | (simp; done) | (simp [*]; done), by repeat (first | exact Drawn0.refl _ | apply Drawn0.step)⟩
 ·rw [if_neg c4] at H
  have c4b0 : decide (a1 ≤ a0) = false := decide_eq_false c4
  clear c4
  obtain rfl := Option.some.inj H
  go_enter Try.func68, Try.ntmps68
  go_wp2
  go_ret
  exact ⟨by first | rfl | (simp; done) | (simp [*]; done), by repeat (first | exact Drawn0.refl _ | apply Drawn0.step)⟩
def impl_ViewOk.l0 : Nat → List Int → Int → Int → List (List (S43)) → Option (Bool)
  | 0, _, _, _, _ => none
  | k + 1, x13, x14, x15, x114000 => if x15 < x14 then (if 0 ≤ x15 then (if x15 < (x13.length : Int) then (if x15 < (x114000.length : Int) then ((impl_within.f (rd x13 x15) 0 (wrap64 (((rd_L3 x114000 x15).length : Int) - 1))).bind fun t116 => (if t116 = true then (impl_ViewOk.l0 k x13 x14 (wrap64 (x15 + 1)) x114000) else (some false))) else (none)) else (none)) else (none)) else (some true)
def impl_ViewOk.f (k : Nat) (l0_0 : List (List (S43))) (l1 : List Int) : Option (Bool) := if (l1.length : Int) = (l0_0.length : Int) then (impl_ViewOk.l0 k l1 (l1.length : Int) 0 l0_0) else (some false)
set_option maxHeartbeats 8000000 in
set_option maxRecDepth 100000 in
theorem impl_ViewOk.calls (k : Nat) (A0_0 : Option Addr) (c0_0 : Nat) (l0_0 : List (List (S43))) (A1 : Option Addr) (c1 : Nat) (l1 : List Int) (r : Bool) (w : World) (hr0_0 : Kd.C (Kd.slice 43 k43) w A0_0 l0_0.length l0_0) (hc0_0 : l0_0.length ≤ c0_0) (hr1 : Kd.C (Kd.int .i64) w A1 l1.length l1) (hc1 : l1.length ≤ c1) (h : impl_ViewOk.f k l0_0 l1 = some r) :
  Calls Try.prog 28 #[.agg #[.slice A0_0 l0_0.length c0_0], .slice A1 l1.length c1] w fun e w' => e = .returned (.bool r) ∧ Below w.heap.size w w' := by
 have hu24 := Try.underlying24
 have HR0_0 := aM_ hr0_0
 have HC0_0 := aM_ hc0_0
 clear hr0_0 hc0_0
 have HR1 := aM_ hr1
 have HC1 := aM_ hc1
 clear hr1 hc1
 have HB := aM_ (Below.refl w.heap.size w)
 have H : (if (l1.length : Int) = (l0_0.length : Int) then (impl_ViewOk.l0 k l1 (l1.length : Int) 0 l0_0) else (some false)) = some r := h
 clear h
 by_cases c3 : (l1.length : Int) = (l0_0.length : Int)
 ·rw [if_pos c3] at H
  have c3b0 : ((l1.length : Int) == (l0_0.length : Int)) = true := beq_iff_eq.mpr c3
  have c3b1 : ((l1.length : Int) != (l0_0.length : Int)) = false := bne_eq_false_iff_eq.mpr c3
  have c3b2 : (l1.length == l0_0.length) = true := by first | simpa using c3 | (simp at c3 ⊢; omega)
  clear c3
  have H' := aM_ H
  clear H
  go_enter Try.func28, Try.ntmps28
  go_wp2_with (first | ((with_reducible refine gate_dst (N := 2) rfl ?_); refine bX_ 2 (cs := #[.slice A0_0 l0_0.length c0_0]) (t := 24) ?_; intro gb113 hg w4 hbox hb; have n0 := aM_ (sT_ HB.out hb); have n1 := aM_ (hbox); have n2 := aM_ (sZ_ hg HB.out); have n3 := aM_ (sZ_ hg HB.out); clear HB; have HB := n0; have BK113 := n1; have GW113 := n2; have GE113 := n3; clear n0 n1 n2 n3; clear hb hbox hg; have hcz5_0 : w4.cell? ⟨gb113, 0, none⟩ = some (.slice A0_0 l0_0.length c0_0) := (blk_cell BK113.out 0).trans rfl; have hfz5_0 := blk_frozen BK113.out 0))
  go_loopg [15] k (fun kq v15 w' => ∃ (x15_1 : Int), v15 = .int .i64 x15_1 ∧ Aside0 (impl_ViewOk.l0 kq l1 (l1.length : Int) x15_1 l0_0 = some r) ∧ Aside0 (kq ≤ k) ∧ Aside0 (w'.heap[gb113]? = some (.cells #[(.slice A0_0 l0_0.length c0_0)] 24 (0, 0))) ∧ Aside0 (Below w.heap.size w w'))
  case atStart => exact ⟨(0), (by first | rfl | (simp; done) | (simp [*]; done)), H', ⟨Nat.le_refl _⟩, ⟨rW_ BK113.out⟩, ⟨gW_ HB.out⟩⟩
  case round =>
   clear H'
   try clear c1
   try clear c2
   try clear p2
   try clear c3
   try clear c3b0
   try clear c3b1
   try clear c3b2
   try clear hcz5_0 hfz5_0
   obtain ⟨x15_1, rfl, HA, HK1, BK113, HB⟩ := hrel
   cases gk with
   | zero => exact absurd HA.out (by simp [impl_ViewOk.l0])
   | succ k1 =>
    have H := HA.out
    clear HA
    simp only [impl_ViewOk.l0] at H
    by_cases c6 : x15_1 < (l1.length : Int)
    ·rw [if_pos c6] at H
     have c6b0 : decide (x15_1 < (l1.length : Int)) = true := decide_eq_true c6
     clear c6
     by_cases c7 : 0 ≤ x15_1
     ·rw [if_pos c7] at H
      have c7b0 : decide (0 ≤ x15_1) = true := decide_eq_true c7
      clear c7
      by_cases c8 : x15_1 < (l1.length : Int)
      ·rw [if_pos c8] at H
       have c8b0 : decide (x15_1 < (l1.length : Int)) = true := decide_eq_true c8
       clear c8
       by_cases c9 : x15_1 < (l0_0.length : Int)
       ·rw [if_pos c9] at H
        have c9b0 : decide (x15_1 < (l0_0.length : Int)) = true := decide_eq_true c9
        clear c9
        replace H := Option.bind_eq_some_iff.mp H
        obtain ⟨t116, A100, H⟩ := H
        replace H : (if t116 = true then (impl_ViewOk.l0 k1 l1 (l1.length : Int) (wrap64 (x15_1 + 1)) l0_0) else (some false)) = some r := H
        have A10 := aM_ A100
        clear A100
        by_cases c11 : t116 = true
        ·subst c11
         have H1 : (impl_ViewOk.l0 k1 l1 (l1.length : Int) (wrap64 (x15_1 + 1)) l0_0) = some r := by rw [if_pos rfl] at H; exact H
         clear H
         have H := H1
         clear H1
         have H' := aM_ H
         clear H
         have p114 : 0 ≤ (x15_1 : Int) := of_decide_eq_true (by first | (with_reducible assumption) | assumption)
         have q114 : x15_1 < (l1.length : Int) := of_decide_eq_true (by first | (with_reducible assumption) | assumption)
         obtain ⟨ad114, e114, hx114_0⟩ := Kd.at_int HR1.out x15_1 p114 q114
         cases e114
         replace hx114_0 := cB_ HB.out hx114_0
         replace p114 := eq_true p114
         replace q114 := eq_true q114
         have hcz12_0 : wr.cell? ⟨gb113, 0, none⟩ = some (.slice A0_0 l0_0.length c0_0) := (blk_cell BK113.out 0).trans rfl
         have hfz12_0 := blk_frozen BK113.out 0
         have p115 : 0 ≤ (x15_1 : Int) := of_decide_eq_true (by first | (with_reducible assumption) | assumption)
         have q115 : x15_1 < (l0_0.length : Int) := of_decide_eq_true (by first | (with_reducible assumption) | assumption)
         obtain ⟨ad115, A115_0, c115_0, e115, hx115_0, hl115_0, hi115_0⟩ := at_L3 HR0_0.out x15_1 p115 q115
         cases e115
         replace hx115_0 := cB_ HB.out hx115_0
         have HR115_0 := aM_ hi115_0
         have HC115_0 := aM_ hl115_0
         clear hi115_0 hl115_0
         replace p115 := eq_true p115
         replace q115 := eq_true q115
         go_wp2_with (first | ((with_reducible refine gate_callee (f := 68) rfl ?_); refine gL_ (some 28) Try.func68 #[.int .i64 (rd l1 x15_1), .int .i64 0, .int .i64 (wrap64 (((rd_L3 l0_0 x15_1).length : Int) - 1))] ?_; (with_reducible refine (impl_within.calls (rd l1 x15_1) 0 (wrap64 (((rd_L3 l0_0 x15_1).length : Int) - 1)) true _ A10.out).mono ?_); rintro e w' ⟨rfl, ⟨nd, rfl⟩⟩; refine ⟨_, rfl, ?_⟩))
         go_roundg k1
         case measure => have := HK1.out; omega
         case rel => exact ⟨(wrap64 (x15_1 + 1)), (by first | rfl | (simp; done) | (simp [*]; done)), H', ⟨by have := HK1.out; omega⟩, ⟨rW_ BK113.out⟩, ⟨gW_ HB.out⟩⟩
        ·replace c11 := Bool.eq_false_iff.mpr c11
         subst c11
         have H1 : (some false) = some r := by rw [if_neg (show ¬ (false = true) by decide)] at H; exact H
         clear H
         have H := H1
         clear H1
         obtain rfl := Option.some.inj H
         have p114 : 0 ≤ (x15_1 : Int) := of_decide_eq_true (by first | (with_reducible assumption) | assumption)
         have q114 : x15_1 < (l1.length : Int) := of_decide_eq_true (by first | (with_reducible assumption) | assumption)
         obtain ⟨ad114, e114, hx114_0⟩ := Kd.at_int HR1.out x15_1 p114 q114
         cases e114
         replace hx114_0 := cB_ HB.out hx114_0
         replace p114 := eq_true p114
         replace q114 := eq_true q114
         have hcz13_0 : wr.cell? ⟨gb113, 0, none⟩ = some (.slice A0_0 l0_0.length c0_0) := (blk_cell BK113.out 0).trans rfl
         have hfz13_0 := blk_frozen BK113.out 0
         have p115 : 0 ≤ (x15_1 : Int) := of_decide_eq_true (by first | (with_reducible assumption) | assumption)
         have q115 : x15_1 < (l0_0.length : Int) := of_decide_eq_true (by first | (with_reducible assumption) | assumption)
         obtain ⟨ad115, A115_0, c115_0, e115, hx115_0, hl115_0, hi115_0⟩ := at_L3 HR0_0.out x15_1 p115 q115
         cases e115
         replace hx115_0 := cB_ HB.out hx115_0
         have HR115_0 := aM_ hi115_0
         have HC115_0 := aM_ hl115_0
         clear hi115_0 hl115_0
         replace p115 := eq_true p115
         replace q115 := eq_true q115
         go_wp2_with (first | ((with_reducible refine gate_callee (f := 68) rfl ?_); refine gL_ (some 28) Try.func68 #[.int .i64 (rd l1 x15_1), .int .i64 0, .int .i64 (wrap64 (((rd_L3 l0_0 x15_1).length : Int) - 1))] ?_; (with_reducible refine (impl_within.calls (rd l1 x15_1) 0 (wrap64 (((rd_L3 l0_0 x15_1).length : Int) - 1)) false _ A10.out).mono ?_); rintro e w' ⟨rfl, ⟨nd, rfl⟩⟩; refine ⟨_, rfl, ?_⟩))
         go_ret
         exact fI_ HB.out
       ·rw [if_neg c9] at H
        exact absurd H (by simp)
      ·rw [if_neg c8] at H
       exact absurd H (by simp)
     ·rw [if_neg c7] at H
      exact absurd H (by simp)
    ·rw [if_neg c6] at H
     have c6b0 : decide (x15_1 < (l1.length : Int)) = false := decide_eq_false c6
     clear c6
     obtain rfl := Option.some.inj H
     go_wp2
     go_ret
     exact fI_ HB.out
 ·rw [if_neg c3] at H
  have c3b0 : ((l1.length : Int) == (l0_0.length : Int)) = false := beq_eq_false_iff_ne.mpr c3
  have c3b1 : ((l1.length : Int) != (l0_0.length : Int)) = true := bne_iff_ne.mpr c3
  have c3b2 : (l1.length == l0_0.length) = false := by first | simpa using c3 | (simp at c3 ⊢; omega)
  obtain rfl := Option.some.inj H
  go_enter Try.func28, Try.ntmps28
  go_wp2_with (first | ((with_reducible refine gate_dst (N := 2) rfl ?_); refine bX_ 2 (cs := #[.slice A0_0 l0_0.length c0_0]) (t := 24) ?_; intro gb113 hg w14 hbox hb; have n0 := aM_ (sT_ HB.out hb); have n1 := aM_ (hbox); have n2 := aM_ (sZ_ hg HB.out); have n3 := aM_ (sZ_ hg HB.out); clear HB; have HB := n0; have BK113 := n1; have GW113 := n2; have GE113 := n3; clear n0 n1 n2 n3; clear hb hbox hg; have hcz15_0 : w14.cell? ⟨gb113, 0, none⟩ = some (.slice A0_0 l0_0.length c0_0) := (blk_cell BK113.out 0).trans rfl; have hfz15_0 := blk_frozen BK113.out 0))
  go_ret
  exact fI_ HB.out
mutual
def impl_MemoryOk.l0 : Nat → List (List (S43)) → Int → Int → List (List (S43)) → Option (Bool)
  | 0, _, _, _, _ => none
  | k + 1, x8, x9, x10, x118000 => if x10 < x9 then (if 0 ≤ x10 then (if x10 < (x8.length : Int) then ((impl_within.f ((rd_L3 x8 x10).length : Int) 1 4000).bind fun t119 => (if t119 = true then (impl_MemoryOk.l1 k x8 x9 x10 (rd_L3 x8 x10) ((rd_L3 x8 x10).length : Int) 0 x118000) else (some false))) else (none)) else (none)) else (some ((x118000.length : Int) == 24))
def impl_MemoryOk.l1 : Nat → List (List (S43)) → Int → Int → List (S43) → Int → Int → List (List (S43)) → Option (Bool)
  | 0, _, _, _, _, _, _, _ => none
  | k + 1, x8, x9, x10, x18, x19, x20, x118000 => if x20 < x19 then (if 0 ≤ x20 then (if x20 < (x18.length : Int) then ((impl_ViewOk.f k x118000 ((rd_T43 x18 x20).f1)).bind fun t122 => (if t122 = true then (impl_MemoryOk.l1 k x8 x9 x10 x18 x19 (wrap64 (x20 + 1)) x118000) else (some false))) else (none)) else (none)) else (impl_MemoryOk.l0 k x8 x9 (wrap64 (x10 + 1)) x118000)
end
def impl_MemoryOk.f (k : Nat) (l0_0 : List (List (S43))) : Option (Bool) := impl_MemoryOk.l0 k l0_0 (l0_0.length : Int) 0 l0_0
set_option maxHeartbeats 8000000 in
set_option maxRecDepth 100000 in
theorem impl_MemoryOk.calls (k : Nat) (A0_0 : Option Addr) (c0_0 : Nat) (l0_0 : List (List (S43))) (r : Bool) (w : World) (hr0_0 : Kd.C (Kd.slice 43 k43) w A0_0 l0_0.length l0_0) (hc0_0 : l0_0.length ≤ c0_0) (h : impl_MemoryOk.f k l0_0 = some r) :
  Calls Try.prog 26 #[.agg #[.slice A0_0 l0_0.length c0_0]] w fun e w' => e = .returned (.bool r) ∧ Below w.heap.size w w' := by
 have hu24 := Try.underlying24
 have hu43 := Try.underlying43
 have HR0_0 := aM_ hr0_0
 have HC0_0 := aM_ hc0_0
 clear hr0_0 hc0_0
 have HB := aM_ (Below.refl w.heap.size w)
 have H : (impl_MemoryOk.l0 k l0_0 (l0_0.length : Int) 0 l0_0) = some r := h
 clear h
 have H' := aM_ H
 clear H
 go_enter Try.func26, Try.ntmps26
 go_wp2_with (first | ((with_reducible refine gate_dst (N := 1) rfl ?_); refine bX_ 1 (cs := #[.slice A0_0 l0_0.length c0_0]) (t := 24) ?_; intro gb117 hg w2 hbox hb; have n0 := aM_ (sT_ HB.out hb); have n1 := aM_ (hbox); have n2 := aM_ (sZ_ hg HB.out); have n3 := aM_ (sZ_ hg HB.out); clear HB; have HB := n0; have BK117 := n1; have GW117 := n2; have GE117 := n3; clear n0 n1 n2 n3; clear hb hbox hg; have hcz3_0 : w2.cell? ⟨gb117, 0, none⟩ = some (.slice A0_0 l0_0.length c0_0) := (blk_cell BK117.out 0).trans rfl; have hfz3_0 := blk_frozen BK117.out 0))
 go_loopg [10] k (fun kq v10 w' => ∃ (x10_1 : Int), v10 = .int .i64 x10_1 ∧ Aside0 (impl_MemoryOk.l0 kq l0_0 (l0_0.length : Int) x10_1 l0_0 = some r) ∧ Aside0 (kq ≤ k) ∧ Aside0 (w'.heap[gb117]? = some (.cells #[(.slice A0_0 l0_0.length c0_0)] 24 (0, 0))) ∧ Aside0 (Below w.heap.size w w'))
 case atStart => exact ⟨(0), (by first | rfl | (simp; done) | (simp [*]; done)), H', ⟨Nat.le_refl _⟩, ⟨rW_ BK117.out⟩, ⟨gW_ HB.out⟩⟩
 case round =>
  clear H'
  try clear c2
  try clear p2
  try clear hcz3_0 hfz3_0
  obtain ⟨x10_1, rfl, HA, HK1, BK117, HB⟩ := hrel
  cases gk with
  | zero => exact absurd HA.out (by simp [impl_MemoryOk.l0])
  | succ k1 =>
   have H := HA.out
   clear HA
   simp only [impl_MemoryOk.l0] at H
   by_cases c4 : x10_1 < (l0_0.length : Int)
   ·rw [if_pos c4] at H
    have c4b0 : decide (x10_1 < (l0_0.length : Int)) = true := decide_eq_true c4
    clear c4
    by_cases c5 : 0 ≤ x10_1
    ·rw [if_pos c5] at H
     have c5b0 : decide (0 ≤ x10_1) = true := decide_eq_true c5
     clear c5
     by_cases c6 : x10_1 < (l0_0.length : Int)
     ·rw [if_pos c6] at H
      have c6b0 : decide (x10_1 < (l0_0.length : Int)) = true := decide_eq_true c6
      clear c6
      replace H := Option.bind_eq_some_iff.mp H
      obtain ⟨t119, A70, H⟩ := H
      replace H : (if t119 = true then (impl_MemoryOk.l1 k1 l0_0 (l0_0.length : Int) x10_1 (rd_L3 l0_0 x10_1) ((rd_L3 l0_0 x10_1).length : Int) 0 l0_0) else (some false)) = some r := H
      have A7 := aM_ A70
      clear A70
      by_cases c8 : t119 = true
      ·subst c8
       have H1 : (impl_MemoryOk.l1 k1 l0_0 (l0_0.length : Int) x10_1 (rd_L3 l0_0 x10_1) ((rd_L3 l0_0 x10_1).length : Int) 0 l0_0) = some r := by rw [if_pos rfl] at H; exact H
       clear H
       have H := H1
       clear H1
       have H' := aM_ H
       clear H
       have p118 : 0 ≤ (x10_1 : Int) := of_decide_eq_true (by first | (with_reducible assumption) | assumption)
       have q118 : x10_1 < (l0_0.length : Int) := of_decide_eq_true (by first | (with_reducible assumption) | assumption)
       obtain ⟨ad118, A118_0, c118_0, e118, hx118_0, hl118_0, hi118_0⟩ := at_L3 HR0_0.out x10_1 p118 q118
       cases e118
       replace hx118_0 := cB_ HB.out hx118_0
       have HR118_0 := aM_ hi118_0
       have HC118_0 := aM_ hl118_0
       clear hi118_0 hl118_0
       replace p118 := eq_true p118
       replace q118 := eq_true q118
       go_wp2_with (first | ((with_reducible refine gate_callee (f := 68) rfl ?_); refine gL_ (some 16) Try.func68 #[.int .i64 ((rd_L3 l0_0 x10_1).length : Int), .int .i64 1, .int .i64 4000] ?_; (with_reducible refine (impl_within.calls ((rd_L3 l0_0 x10_1).length : Int) 1 4000 true _ A7.out).mono ?_); rintro e w' ⟨rfl, ⟨nd, rfl⟩⟩; refine ⟨_, rfl, ?_⟩))
       go_loopg [20] k1 (fun kq v20 w' => ∃ (x20_2 : Int), v20 = .int .i64 x20_2 ∧ Aside0 (impl_MemoryOk.l1 kq l0_0 (l0_0.length : Int) x10_1 (rd_L3 l0_0 x10_1) ((rd_L3 l0_0 x10_1).length : Int) x20_2 l0_0 = some r) ∧ Aside0 (kq ≤ k1) ∧ Aside0 (w'.heap[gb117]? = some (.cells #[(.slice (some ad118) l0_0.length c0_0)] 24 (0, 0))) ∧ Aside0 (Below w.heap.size w w'))
       case atStart => exact ⟨(0), (by first | rfl | (simp; done) | (simp [*]; done)), H', ⟨Nat.le_refl _⟩, ⟨rW_ BK117.out⟩, ⟨gW_ HB.out⟩⟩
       case round =>
        clear H'
        try clear c1
        try clear p1
        try clear q1
        try clear hx1
        try clear c2
        try clear p2
        try clear c4
        try clear c4b0
        try clear c5
        try clear c5b0
        try clear c6
        try clear c6b0
        try clear c8
        try clear hcz3_0 hfz3_0
        try clear hx118_0
        try clear p118
        try clear p2
        try clear q118
        obtain ⟨x20_2, rfl, HA, HK2, BK117, HB⟩ := hrel
        cases gk with
        | zero => exact absurd HA.out (by simp [impl_MemoryOk.l1])
        | succ k2 =>
         have H := HA.out
         clear HA
         simp only [impl_MemoryOk.l1] at H
         by_cases c9 : x20_2 < ((rd_L3 l0_0 x10_1).length : Int)
         ·rw [if_pos c9] at H
          have c9b0 : decide (x20_2 < ((rd_L3 l0_0 x10_1).length : Int)) = true := decide_eq_true c9
          clear c9
          by_cases c10 : 0 ≤ x20_2
          ·rw [if_pos c10] at H
           have c10b0 : decide (0 ≤ x20_2) = true := decide_eq_true c10
           clear c10
           by_cases c11 : x20_2 < ((rd_L3 l0_0 x10_1).length : Int)
           ·rw [if_pos c11] at H
            have c11b0 : decide (x20_2 < ((rd_L3 l0_0 x10_1).length : Int)) = true := decide_eq_true c11
            clear c11
            replace H := Option.bind_eq_some_iff.mp H
            obtain ⟨t122, A120, H⟩ := H
            replace H : (if t122 = true then (impl_MemoryOk.l1 k2 l0_0 (l0_0.length : Int) x10_1 (rd_L3 l0_0 x10_1) ((rd_L3 l0_0 x10_1).length : Int) (wrap64 (x20_2 + 1)) l0_0) else (some false)) = some r := H
            have A12 := aM_ A120
            clear A120
            by_cases c13 : t122 = true
            ·subst c13
             have H1 : (impl_MemoryOk.l1 k2 l0_0 (l0_0.length : Int) x10_1 (rd_L3 l0_0 x10_1) ((rd_L3 l0_0 x10_1).length : Int) (wrap64 (x20_2 + 1)) l0_0) = some r := by rw [if_pos rfl] at H; exact H
             clear H
             have H := H1
             clear H1
             have H' := aM_ H
             clear H
             have p120 : 0 ≤ (x20_2 : Int) := of_decide_eq_true (by first | (with_reducible assumption) | assumption)
             have q120 : x20_2 < ((rd_L3 l0_0 x10_1).length : Int) := of_decide_eq_true (by first | (with_reducible assumption) | assumption)
             obtain ⟨ad120, A120_1, c120_1, e120, hx120_0, hx120_1, hl120_1, hi120_1⟩ := at_T43 HR118_0.out x20_2 p120 q120
             cases e120
             replace hx120_0 := cB_ HB.out hx120_0
             replace hx120_1 := cB_ HB.out hx120_1
             have HR120_1 := aM_ hi120_1
             have HC120_1 := aM_ hl120_1
             clear hi120_1 hl120_1
             replace p120 := eq_true p120
             replace q120 := eq_true q120
             go_wp2_with (first | ((with_reducible refine gate_dst (N := 6) rfl ?_); refine bX_ 6 (cs := #[.int .i64 0, .slice none 0 0]) (t := 43) ?_; intro gb121 hg w14 hbox hb; have n0 := aM_ (nB_ BK117.out hb); have n1 := aM_ (sT_ HB.out hb); have n2 := aM_ (hbox); have n3 := aM_ (sZ_ hg HB.out); have n4 := aM_ (sZ_ hg HB.out); have n5 := aM_ (nL_ hg BK117.out); have n6 := aM_ (nG_ hg BK117.out); clear BK117; clear HB; have BK117 := n0; have HB := n1; have BK121 := n2; have GW121 := n3; have GE121 := n4; have NB117_121 := n5; have NB121_117 := n6; clear n0 n1 n2 n3 n4 n5 n6; clear hb hbox hg; have hnb15 := NB121_117.out; have hnc15 := NB117_121.out; obtain ⟨hcz16_0, hcz16_1, hfz16_0, hfz16_1⟩ := bR2_ BK121.out; have hcz17_0 : w14.cell? ⟨gb117, 0, none⟩ = some (.slice (some ad118) l0_0.length c0_0) := (blk_cell BK117.out 0).trans rfl; have hfz17_0 := blk_frozen BK117.out 0) | ((with_reducible refine gate_callee (f := 28) rfl ?_); refine gL_ (some 27) Try.func28 #[.agg #[.slice (some ad118) l0_0.length c0_0], .slice A120_1 ((rd_T43 (rd_L3 l0_0 x10_1) x20_2).f1).length c120_1] ?_; (with_reducible refine (impl_ViewOk.calls k2 _ _ l0_0 _ _ ((rd_T43 (rd_L3 l0_0 x10_1) x20_2).f1) true _ ?side1 ?side2 ?side3 ?side4 A12.out).mono ?_); (case side1 => exact Kd.C_below HR0_0.out (gB_ HB.out)); (case side2 => exact HC0_0.out); (case side3 => exact Kd.C_below HR120_1.out (gB_ HB.out)); (case side4 => exact HC120_1.out); rintro e w18 ⟨rfl, hb⟩; refine ⟨_, rfl, ?_⟩; have n0 := aM_ (nBf_ BK117.out hb); have n1 := aM_ (blk_below (g := gb121) (o := .cells #[.int .i64 ((rd_T43 (rd_L3 l0_0 x10_1) x20_2).f0), .slice A120_1 ((rd_T43 (rd_L3 l0_0 x10_1) x20_2).f1).length c120_1] 43 (0, 0)) (by (with_reducible repeat (first | refine bN_ ?_ _ | refine bD_ ?_ | refine bA_ ?_ _)); refine blk_put (cs := #[.int .i64 ((rd_T43 (rd_L3 l0_0 x10_1) x20_2).f0), .slice none 0 0]) ?_ 1 _ rfl; refine blk_put (cs := #[.int .i64 0, .slice none 0 0]) ?_ 0 _ rfl; exact rW_ BK121.out) hb); have n2 := aM_ (sT_ HB.out hb); clear BK117; clear BK121; clear HB; have BK117 := n0; have BK121 := n1; have HB := n2; clear n0 n1 n2))
             go_roundg k2
             case measure => have := HK1.out; have := HK2.out; omega
             case rel => exact ⟨(wrap64 (x20_2 + 1)), (by first | rfl | (simp; done) | (simp [*]; done)), H', ⟨by have := HK1.out; have := HK2.out; omega⟩, ⟨rW_ BK117.out⟩, ⟨gW_ HB.out⟩⟩
            ·replace c13 := Bool.eq_false_iff.mpr c13
             subst c13
             have H1 : (some false) = some r := by rw [if_neg (show ¬ (false = true) by decide)] at H; exact H
             clear H
             have H := H1
             clear H1
             obtain rfl := Option.some.inj H
             have p120 : 0 ≤ (x20_2 : Int) := of_decide_eq_true (by first | (with_reducible assumption) | assumption)
             have q120 : x20_2 < ((rd_L3 l0_0 x10_1).length : Int) := of_decide_eq_true (by first | (with_reducible assumption) | assumption)
             obtain ⟨ad120, A120_1, c120_1, e120, hx120_0, hx120_1, hl120_1, hi120_1⟩ := at_T43 HR118_0.out x20_2 p120 q120
             cases e120
             replace hx120_0 := cB_ HB.out hx120_0
             replace hx120_1 := cB_ HB.out hx120_1
             have HR120_1 := aM_ hi120_1
             have HC120_1 := aM_ hl120_1
             clear hi120_1 hl120_1
             replace p120 := eq_true p120
             replace q120 := eq_true q120
             go_wp2_with (first | ((with_reducible refine gate_dst (N := 6) rfl ?_); refine bX_ 6 (cs := #[.int .i64 0, .slice none 0 0]) (t := 43) ?_; intro gb121 hg w19 hbox hb; have n0 := aM_ (nB_ BK117.out hb); have n1 := aM_ (sT_ HB.out hb); have n2 := aM_ (hbox); have n3 := aM_ (sZ_ hg HB.out); have n4 := aM_ (sZ_ hg HB.out); have n5 := aM_ (nL_ hg BK117.out); have n6 := aM_ (nG_ hg BK117.out); clear BK117; clear HB; have BK117 := n0; have HB := n1; have BK121 := n2; have GW121 := n3; have GE121 := n4; have NB117_121 := n5; have NB121_117 := n6; clear n0 n1 n2 n3 n4 n5 n6; clear hb hbox hg; have hnb20 := NB121_117.out; have hnc20 := NB117_121.out; obtain ⟨hcz21_0, hcz21_1, hfz21_0, hfz21_1⟩ := bR2_ BK121.out; have hcz22_0 : w19.cell? ⟨gb117, 0, none⟩ = some (.slice (some ad118) l0_0.length c0_0) := (blk_cell BK117.out 0).trans rfl; have hfz22_0 := blk_frozen BK117.out 0) | ((with_reducible refine gate_callee (f := 28) rfl ?_); refine gL_ (some 27) Try.func28 #[.agg #[.slice (some ad118) l0_0.length c0_0], .slice A120_1 ((rd_T43 (rd_L3 l0_0 x10_1) x20_2).f1).length c120_1] ?_; (with_reducible refine (impl_ViewOk.calls k2 _ _ l0_0 _ _ ((rd_T43 (rd_L3 l0_0 x10_1) x20_2).f1) false _ ?side1 ?side2 ?side3 ?side4 A12.out).mono ?_); (case side1 => exact Kd.C_below HR0_0.out (gB_ HB.out)); (case side2 => exact HC0_0.out); (case side3 => exact Kd.C_below HR120_1.out (gB_ HB.out)); (case side4 => exact HC120_1.out); rintro e w23 ⟨rfl, hb⟩; refine ⟨_, rfl, ?_⟩; have n0 := aM_ (nBf_ BK117.out hb); have n1 := aM_ (blk_below (g := gb121) (o := .cells #[.int .i64 ((rd_T43 (rd_L3 l0_0 x10_1) x20_2).f0), .slice A120_1 ((rd_T43 (rd_L3 l0_0 x10_1) x20_2).f1).length c120_1] 43 (0, 0)) (by (with_reducible repeat (first | refine bN_ ?_ _ | refine bD_ ?_ | refine bA_ ?_ _)); refine blk_put (cs := #[.int .i64 ((rd_T43 (rd_L3 l0_0 x10_1) x20_2).f0), .slice none 0 0]) ?_ 1 _ rfl; refine blk_put (cs := #[.int .i64 0, .slice none 0 0]) ?_ 0 _ rfl; exact rW_ BK121.out) hb); have n2 := aM_ (sT_ HB.out hb); clear BK117; clear BK121; clear HB; have BK117 := n0; have BK121 := n1; have HB := n2; clear n0 n1 n2))
             go_ret
             exact fI_ HB.out
           ·rw [if_neg c11] at H
            exact absurd H (by simp)
          ·rw [if_neg c10] at H
           exact absurd H (by simp)
         ·rw [if_neg c9] at H
          have c9b0 : decide (x20_2 < ((rd_L3 l0_0 x10_1).length : Int)) = false := decide_eq_false c9
          clear c9
          have H' := aM_ H
          clear H
          go_wp2
          go_roundg k2
          case measure => have := HK1.out; have := HK2.out; omega
          case rel => exact ⟨(wrap64 (x10_1 + 1)), (by first | rfl | (simp; done) | (simp [*]; done)), H', ⟨by have := HK1.out; have := HK2.out; omega⟩, ⟨rW_ BK117.out⟩, ⟨gW_ HB.out⟩⟩
      ·replace c8 := Bool.eq_false_iff.mpr c8
       subst c8
       have H1 : (some false) = some r := by rw [if_neg (show ¬ (false = true) by decide)] at H; exact H
       clear H
       have H := H1
       clear H1
       obtain rfl := Option.some.inj H
       have p118 : 0 ≤ (x10_1 : Int) := of_decide_eq_true (by first | (with_reducible assumption) | assumption)
       have q118 : x10_1 < (l0_0.length : Int) := of_decide_eq_true (by first | (with_reducible assumption) | assumption)
       obtain ⟨ad118, A118_0, c118_0, e118, hx118_0, hl118_0, hi118_0⟩ := at_L3 HR0_0.out x10_1 p118 q118
       cases e118
       replace hx118_0 := cB_ HB.out hx118_0
       have HR118_0 := aM_ hi118_0
       have HC118_0 := aM_ hl118_0
       clear hi118_0 hl118_0
       replace p118 := eq_true p118
       replace q118 := eq_true q118
       go_wp2_with (first | ((with_reducible refine gate_callee (f := 68) rfl ?_); refine gL_ (some 16) Try.func68 #[.int .i64 ((rd_L3 l0_0 x10_1).length : Int), .int .i64 1, .int .i64 4000] ?_; (with_reducible refine (impl_within.calls ((rd_L3 l0_0 x10_1).length : Int) 1 4000 false _ A7.out).mono ?_); rintro e w' ⟨rfl, ⟨nd, rfl⟩⟩; refine ⟨_, rfl, ?_⟩))
       go_ret
       exact fI_ HB.out
     ·rw [if_neg c6] at H
      exact absurd H (by simp)
    ·rw [if_neg c5] at H
     exact absurd H (by simp)
   ·rw [if_neg c4] at H
    have c4b0 : decide (x10_1 < (l0_0.length : Int)) = false := decide_eq_false c4
    clear c4
    obtain rfl := Option.some.inj H
    have hcz24_0 : wr.cell? ⟨gb117, 0, none⟩ = some (.slice A0_0 l0_0.length c0_0) := (blk_cell BK117.out 0).trans rfl
    have hfz24_0 := blk_frozen BK117.out 0
    go_wp2
    go_ret
    exact fI_ HB.out
def impl_copyInts.f (l0 : List Int) : Option (List Int) := (some (([] : List Int) : List Int)).bind fun y123 => (if y123.length + l0.length < 17592186044416 then (some (y123 ++ l0)) else (none))
set_option maxHeartbeats 8000000 in
set_option maxRecDepth 100000 in
theorem impl_copyInts.calls (A0 : Option Addr) (c0 : Nat) (l0 : List Int) (r : List Int) (w : World) (hr0 : Kd.C (Kd.int .i64) w A0 l0.length l0) (hc0 : l0.length ≤ c0) (h : impl_copyInts.f l0 = some r) :
  Calls Try.prog 58 #[.slice A0 l0.length c0] w fun e w' => ∃ v0_ : Value, e = .returned (v0_) ∧ Kd.R (Kd.int .i64) 3 w' w.heap.size (fun _ => True) v0_ r ∧ Below w.heap.size w w' := by
 have HR0 := aM_ hr0
 have HC0 := aM_ hc0
 clear hr0 hc0
 have HB := aM_ (Below.refl w.heap.size w)
 have H : ((some (([] : List Int) : List Int)).bind fun y123 => (if y123.length + l0.length < 17592186044416 then (some (y123 ++ l0)) else (none))) = some r := h
 clear h
 obtain ⟨y123, hy123⟩ : ∃ y_ : List Int, y_ = (([] : List Int)) := ⟨_, rfl⟩
 replace H : (if y123.length + l0.length < 17592186044416 then (some (y123 ++ l0)) else (none)) = some r := by first | (rw [hy123]; with_reducible exact H) | (have H2_ := (Option.bind_some _ _).symm.trans H; rw [hy123]; with_reducible exact H2_) | (have H2_ := (Option.bind_some _ _).symm.trans H; with_reducible exact H2_) | with_reducible exact H | (rw [hy123]; exact H) | exact H
 have Ny123 := aM_ hy123
 clear hy123
 by_cases c2 : y123.length + l0.length < 17592186044416
 ·rw [if_pos c2] at H
  have LMc2 := aM_ c2
  clear c2
  obtain ⟨y126, hy126⟩ : ∃ y_ : List Int, y_ = (y123 ++ l0) := ⟨_, rfl⟩
  replace H : (some y126) = some r := by first | (rw [hy126]; with_reducible exact H) | (have H2_ := (Option.bind_some _ _).symm.trans H; rw [hy126]; with_reducible exact H2_) | (have H2_ := (Option.bind_some _ _).symm.trans H; with_reducible exact H2_) | with_reducible exact H | (rw [hy126]; exact H) | exact H
  have Ny126 := aM_ hy126
  clear hy126
  obtain rfl := Option.some.inj H
  go_enter Try.func58, Try.ntmps58
  go_wp2_with (first | ((with_reducible refine gate_dst (N := 3) rfl ?_); refine Kd.R_lit (Kd.int .i64) _ 3 ?hg (N := 3) ?hd (xs := ([] : List Int)) (inner := []) (ok := fun _ => True) (okp := fun _ => True) ?hr ?hp (fun _ hk => hk) trivial (Below.refl _ _) (Nat.le_refl _) (by simp) ?_; (case hd => rfl); (case hg => rfl); (case hr => first | (go_simp; done) | (go_simp; rfl)); (case hp => exact (Reps.none _ _)); intro v124 w3 ho4 hb hg_ hnew_; clear hg_ hnew_; (first | rw [← Ny123.out] at ho4 | (simp only [Int.reduceToNat] at ho4; rw [← Ny123.out] at ho4)); have n0 := aM_ (Kd.R_lower ho4 (below_size (gB_ HB.out))); have n1 := aM_ (sT_ HB.out hb); clear HB; have HO125 := n0; have HB := n1; clear n0 n1; clear hb ho4) | ((with_reducible refine gate_builtin (b := .append) (xs := #[.tmp 3, .tmp 4]) rfl ?_); at_builtin; refine Kd.R_append_rows (Kd.int .i64) (w0 := w) w.heap.size rfl (.tmp 3) (.tmp 4) 31 3 (.int .i64 0) 8 rfl Try.underlying31 info3 rfl (by decide) (by omega) v124 y123 l0 _ _ _ (fun _ => True) (fun _ => False) rfl rfl ?aO ?aR (fun _ _ h => h) (fun _ h => h.elim) ?aF ?aB ?aS ?aL ?_; (case aR => repeat (first | exact (Kd.C_below HR0.out HB.out) | (with_reducible refine Kd.C_alloc ?_ _) | (with_reducible refine Kd.C_drewN ?_ _) | (with_reducible refine Kd.C_drew ?_))); (case aB => exact (gB_ HB.out)); (case aF => exact (fun _ _ => trivial)); (case aO => exact (by (with_reducible repeat (first | apply rA_ | apply rN_ | apply rD_)); exact HO125.out)); (case aS => exact (below_size (gB_ HB.out))); (case aL => have := LMc2.out; omega); intro v127 w5 ho hb hg hat; rw [← Ny126.out] at ho; have n0 := aM_ (hb); have n1 := aM_ (ho); clear HB; clear HO125; have HB := n0; have HO128 := n1; clear n0 n1; clear ho hb hg hat))
  go_ret
  exact ⟨_, fR_, by (with_reducible repeat (first | apply rA_ | apply rN_ | apply rD_)); exact HO128.out, gB_ HB.out⟩
 ·rw [if_neg c2] at H
  exact absurd H (by simp)
end Go.Proofs.Ythbcnakmnbilhaa.PFnMessage
namespace Go.Proofs.Ythbcnakmnbilhaa.Marks
open Go.RowKit Go.Proofs.YthbcnakmnbilhaaW.PrintWords Go.Proofs.YthbcnakmnbilhaaW.PrintLast Go.Proofs.YthbcnakmnbilhaaW.PrintMore
set_option linter.unusedVariables false
def Sc (v v' : Value) : Prop := v' = v ∨ (∃ k n n', v = .int k n ∧ v' = .int k n') ∨ (∃ b b', v = .bool b ∧ v' = .bool b')
theorem Sc.refl (v : Value) : Sc v v := .inl rfl
theorem Sc.trans {a b c : Value} (h : Sc a b) (k : Sc b c) : Sc a c := by
  rcases h with rfl | ⟨_, _, _, rfl, rfl⟩ | ⟨_, _, rfl, rfl⟩
  · exact k
  · rcases k with rfl | ⟨_, _, n', h1, rfl⟩ | ⟨_, _, h1, _⟩
    · exact .inr (.inl ⟨_, _, _, rfl, rfl⟩)
    · cases h1
      exact .inr (.inl ⟨_, _, _, rfl, rfl⟩)
    · cases h1
  · rcases k with rfl | ⟨_, _, _, h1, _⟩ | ⟨_, b', h1, rfl⟩
    · exact .inr (.inr ⟨_, _, rfl, rfl⟩)
    · cases h1
    · exact .inr (.inr ⟨_, _, rfl, rfl⟩)
def Mk (P : Nat → Prop) (w w' : World) : Prop := Kept w w' P ∧ Below 0 w w' ∧ ∀ (g : Nat) (cs : Array Value) (t : TypeId), w.heap[g]? = some (.cells cs t (0, 0)) → ∃ cs' : Array Value, w'.heap[g]? = some (.cells cs' t (0, 0)) ∧ ∀ (j : Nat) v, cs[j]? = some v → ∃ v', cs'[j]? = some v' ∧ Sc v v'
section
variable {P P' : Nat → Prop} {w w' w1 W : World}
theorem Mk.refl (P : Nat → Prop) (w : World) : Mk P w w := ⟨Kept.refl w P, Below.refl _ _, fun g cs t h => ⟨cs, h, fun j v hj => ⟨v, hj, Sc.refl v⟩⟩⟩
theorem Mk.trans (h : Mk P w w1) (k : Mk P w1 w') : Mk P w w' := by
  refine ⟨h.1.then_ k.1 (fun _ h2 => .inl h2), h.2.1.trans k.2.1, fun g cs t hg => ?_⟩
  obtain ⟨cs1, h1, e1⟩ := h.2.2 g cs t hg
  obtain ⟨cs2, h2, e2⟩ := k.2.2 g cs1 t h1
  refine ⟨cs2, h2, fun j v hj => ?_⟩
  obtain ⟨v1, hv1, s1⟩ := e1 j v hj
  obtain ⟨v2, hv2, s2⟩ := e2 j v1 hv1
  exact ⟨v2, hv2, s1.trans s2⟩
theorem Mk.mono (h : Mk P w w') (hp : ∀ k, P k → P' k) : Mk P' w w' := ⟨h.1.mono hp, h.2⟩
theorem Mk.drewN (h : Mk P w W) (n : Nat) : Mk P w (W.drewN n) := ⟨h.1, pw_below_drewN h.2.1 n, h.2.2⟩
theorem Mk.drew (h : Mk P w W) : Mk P w W.drew := ⟨h.1, below_drew h.2.1, h.2.2⟩
theorem Mk.below (h : Mk P w w') {B : Nat} (hB : B ≤ w.heap.size) (hP : ∀ k, P k → B ≤ k) : Below B w w' := ⟨h.2.1.os, h.2.1.tape, h.2.1.output, h.2.1.size, fun k hk => h.1.2 k (Nat.lt_of_lt_of_le hk hB) (fun hp => by have := hP k hp; omega)⟩
theorem below_set0 (W : World) (a : Addr) (u : Value) : Below 0 W (W.setCell a u) := ⟨rfl, rfl, rfl, by simp [World.setCell], fun k hk => by omega⟩
theorem Mk.of_below (hb : Below w.heap.size w w') : Mk P w w' := ⟨Kept.of_below hb P, hb.mono (Nat.zero_le _), fun g cs t hg => ⟨cs, (hb.block g (blk_lt hg)).trans hg, fun j v hj => ⟨v, hj, Sc.refl v⟩⟩⟩
theorem Mk.set (h : Mk P w W) {g o : Nat} (hP : P g) {v u : Value} (hc : W.cell? ⟨g, o, none⟩ = some v) (hs : Sc v u) : Mk P w (W.setCell ⟨g, o, none⟩ u) := by
  refine ⟨h.1.setCell (.inl hP) u, h.2.1.trans (below_set0 _ _ _), fun g' cs t hg => ?_⟩
  obtain ⟨cs1, h1, e1⟩ := h.2.2 g' cs t hg
  by_cases e : g' = g
  · subst e
    refine ⟨_, blk_set h1 o u, fun j v0 hj => ?_⟩
    obtain ⟨v1, hv1, s1⟩ := e1 j v0 hj
    by_cases ej : j = o
    · subst ej
      have hv : v1 = v := Option.some.inj (hv1.symm.trans ((blk_cell h1 j).symm.trans hc))
      subst hv
      have hlt : j < cs1.size := (Array.getElem?_eq_some_iff.1 hv1).1
      exact ⟨u, by rw [Array.getElem?_setIfInBounds_self]; simp [hlt], s1.trans hs⟩
    · exact ⟨v1, by rw [Array.getElem?_setIfInBounds_ne (Ne.symm ej)]; exact hv1, s1⟩
  · exact ⟨cs1, (Below.heap_setCell W ⟨g, o, none⟩ u g' e).trans h1, e1⟩
end
def IntAt (w : World) (g o : Nat) : Prop := ∃ (cs : Array Value) (t : TypeId) (n : Int), w.heap[g]? = some (.cells cs t (0, 0)) ∧ cs[o]? = some (.int .i64 n)
def BoolAt (w : World) (g o : Nat) : Prop := ∃ (cs : Array Value) (t : TypeId) (b : Bool), w.heap[g]? = some (.cells cs t (0, 0)) ∧ cs[o]? = some (.bool b)
def SlAt (w : World) (g o : Nat) (A : Option Addr) (n c : Nat) : Prop := ∃ (cs : Array Value) (t : TypeId), w.heap[g]? = some (.cells cs t (0, 0)) ∧ cs[o]? = some (.slice A n c)
section
variable {P : Nat → Prop} {w w' : World} {g o n c : Nat} {A : Option Addr}
theorem IntAt.mk (h : IntAt w g o) (k : Mk P w w') : IntAt w' g o := by
  obtain ⟨cs, t, n, h1, h2⟩ := h
  obtain ⟨cs', h3, e⟩ := k.2.2 g cs t h1
  obtain ⟨v', h4, s⟩ := e o _ h2
  rcases s with rfl | ⟨_, _, n', h5, rfl⟩ | ⟨_, _, h5, _⟩
  · exact ⟨cs', t, n, h3, h4⟩
  · cases h5
    exact ⟨cs', t, n', h3, h4⟩
  · cases h5
theorem BoolAt.mk (h : BoolAt w g o) (k : Mk P w w') : BoolAt w' g o := by
  obtain ⟨cs, t, n, h1, h2⟩ := h
  obtain ⟨cs', h3, e⟩ := k.2.2 g cs t h1
  obtain ⟨v', h4, s⟩ := e o _ h2
  rcases s with rfl | ⟨_, _, n', h5, rfl⟩ | ⟨_, b', h5, rfl⟩
  · exact ⟨cs', t, n, h3, h4⟩
  · cases h5
  · exact ⟨cs', t, b', h3, h4⟩
theorem SlAt.mk (h : SlAt w g o A n c) (k : Mk P w w') : SlAt w' g o A n c := by
  obtain ⟨cs, t, h1, h2⟩ := h
  obtain ⟨cs', h3, e⟩ := k.2.2 g cs t h1
  obtain ⟨v', h4, s⟩ := e o _ h2
  rcases s with rfl | ⟨_, _, n', h5, rfl⟩ | ⟨_, b', h5, rfl⟩
  · exact ⟨cs', t, h3, h4⟩
  · cases h5
  · cases h5
theorem IntAt.cell (h : IntAt w g o) : ∃ n, w.cell? ⟨g, o, none⟩ = some (.int .i64 n) ∧ w.frozen? ⟨g, o, none⟩ = false := by
  obtain ⟨cs, t, n, h1, h2⟩ := h
  exact ⟨n, (blk_cell h1 o).trans h2, blk_frozen h1 o⟩
theorem BoolAt.cell (h : BoolAt w g o) : ∃ n, w.cell? ⟨g, o, none⟩ = some (.bool n) ∧ w.frozen? ⟨g, o, none⟩ = false := by
  obtain ⟨cs, t, n, h1, h2⟩ := h
  exact ⟨n, (blk_cell h1 o).trans h2, blk_frozen h1 o⟩
theorem SlAt.cell (h : SlAt w g o A n c) : w.cell? ⟨g, o, none⟩ = some (.slice A n c) := by
  obtain ⟨cs, t, h1, h2⟩ := h
  exact (blk_cell h1 o).trans h2
end
abbrev Cel := Nat × Nat × Bool
def cellv (b : Bool) (k : Int) : Value := if b = true then .bool (decide (Int.tmod k 3 = 0)) else .int .i64 k
def writes : World → List Cel → Int → World
  | w, [], _ => w
  | w, c :: L, k => writes (w.setCell ⟨c.1, c.2.1, none⟩ (cellv c.2.2 k)) L (k + 1)
theorem writes_append : ∀ (L M : List Cel) (w : World) (k : Int), writes w (L ++ M) k = writes (writes w L k) M (k + L.length)
  | [], M, w, k => by simp [writes]
  | c :: L, M, w, k => by
    rw [List.cons_append, writes, writes, writes_append L M, List.length_cons]
    congr 1
    omega
theorem drewN_set (w : World) (n : Nat) (a : Addr) (v : Value) : (w.drewN n).setCell a v = (w.setCell a v).drewN n := rfl
theorem writes_drewN : ∀ (L : List Cel) (w : World) (n : Nat) (k : Int), writes (w.drewN n) L k = (writes w L k).drewN n
  | [], w, n, k => rfl
  | c :: L, w, n, k => by
    rw [writes, writes, drewN_set, writes_drewN L]
def Wr (w : World) (L : List Cel) (k : Int) (w' : World) : Prop := ∃ n, w' = (writes w L k).drewN n
section
variable {w w' w1 w2 : World} {L M : List Cel} {k k2 : Int}
theorem Wr.refl (w : World) (k : Int) : Wr w [] k w := ⟨0, rfl⟩
theorem Wr.drewN (h : Wr w L k w') (n : Nat) : Wr w L k (w'.drewN n) := by
  obtain ⟨m, rfl⟩ := h
  exact ⟨m + n, World.drewN_drewN ..⟩
theorem Wr.trans (h : Wr w L k w1) (h2 : Wr w1 M k2 w2) (e : k2 = k + L.length) : Wr w (L ++ M) k w2 := by
  obtain ⟨m, rfl⟩ := h
  obtain ⟨n, rfl⟩ := h2
  subst e
  rw [writes_drewN, ← writes_append]
  exact ⟨m + n, World.drewN_drewN ..⟩
theorem Wr.set (h : Wr w L k w') {g o : Nat} (b : Bool) {v : Value} (e : v = cellv b (k + L.length)) : Wr w (L ++ [(g, o, b)]) k (w'.setCell ⟨g, o, none⟩ v) :=
  h.trans (k2 := k + L.length) (M := [(g, o, b)]) ⟨0, by subst e; rfl⟩ rfl
end
inductive Ty where
  | int | bool | pair (a b : Ty) | sl (a : Ty)
def Ty.sz : Ty → Nat
  | .int => 1
  | .bool => 1
  | .sl _ => 1
  | .pair a b => a.sz + b.sz
def cat (Ls : Nat → List Cel) (n : Nat) : List Cel := (List.range n).flatMap Ls
theorem cat_succ (Ls : Nat → List Cel) (n : Nat) : cat Ls (n + 1) = cat Ls n ++ Ls n := by simp [cat, List.range_succ]
def Vis (P : Nat → Prop) (w : World) : Ty → Nat → Nat → List Cel → Prop
  | .int, g, o, L => L = [(g, o, false)] ∧ IntAt w g o
  | .bool, g, o, L => L = [(g, o, true)] ∧ BoolAt w g o
  | .pair a b, g, o, L => ∃ L1 L2, L = L1 ++ L2 ∧ Vis P w a g o L1 ∧ Vis P w b g (o + a.sz) L2
  | .sl a, g, o, L => ∃ A n c, SlAt w g o A n c ∧ n ≤ 9223372036854775807 ∧ ∃ Ls, L = cat Ls n ∧ (0 < n → ∃ g', A = some ⟨g', 0, none⟩ ∧ P g' ∧ ∀ i, i < n → Vis P w a g' (i * a.sz) (Ls i))
def RowV (P : Nat → Prop) (w : World) (a : Ty) (A : Option Addr) (n : Nat) (L : List Cel) : Prop := n ≤ 9223372036854775807 ∧ ∃ Ls, L = cat Ls n ∧ (0 < n → ∃ g', A = some ⟨g', 0, none⟩ ∧ P g' ∧ ∀ i, i < n → Vis P w a g' (i * a.sz) (Ls i))
theorem Vis.mk {P Q : Nat → Prop} {w w' : World} (k : Mk Q w w') : ∀ {t : Ty} {g o : Nat} {L : List Cel}, Vis P w t g o L → Vis P w' t g o L
  | .int, g, o, L, h => ⟨h.1, h.2.mk k⟩
  | .bool, g, o, L, h => ⟨h.1, h.2.mk k⟩
  | .pair a b, g, o, L, ⟨L1, L2, e, h1, h2⟩ => ⟨L1, L2, e, Vis.mk k h1, Vis.mk k h2⟩
  | .sl a, g, o, L, ⟨A, n, c, hs, hb, Ls, e, h⟩ => ⟨A, n, c, hs.mk k, hb, Ls, e, fun hn => by
    obtain ⟨g', e', hp, hi⟩ := h hn
    exact ⟨g', e', hp, fun i hl => Vis.mk k (hi i hl)⟩⟩
theorem RowV.mk {P Q : Nat → Prop} {w w' : World} (k : Mk Q w w') {t : Ty} {A : Option Addr} {n : Nat} {L : List Cel} (h : RowV P w t A n L) : RowV P w' t A n L := by
  obtain ⟨hb, Ls, e, h⟩ := h
  exact ⟨hb, Ls, e, fun hn => by
    obtain ⟨g', e', hp, hi⟩ := h hn
    exact ⟨g', e', hp, fun i hl => Vis.mk k (hi i hl)⟩⟩
def HeldAt (w : World) (L : List Cel) (k : Int) : Prop := ∀ (j : Nat) (c : Cel), L[j]? = some c → w.cell? ⟨c.1, c.2.1, none⟩ = some (cellv c.2.2 (k + j))
section
variable {w w' : World} {L M : List Cel} {k : Int}
theorem HeldAt.left (h : HeldAt w (L ++ M) k) : HeldAt w L k := fun j c hj => h j c (by rw [List.getElem?_append_left (List.getElem?_eq_some_iff.1 hj).1]; exact hj)
theorem HeldAt.right (h : HeldAt w (L ++ M) k) : HeldAt w M (k + L.length) := fun j c hj => by
  have := h (L.length + j) c (by rw [List.getElem?_append_right (by omega), Nat.add_sub_cancel_left]; exact hj)
  rw [this]
  congr 2
  push_cast
  omega
theorem HeldAt.one {g o : Nat} {b : Bool} (h : HeldAt w [(g, o, b)] k) : w.cell? ⟨g, o, none⟩ = some (cellv b k) := by
  have := h 0 (g, o, b) rfl
  simpa using this
theorem HeldAt.cat {Ls : Nat → List Cel} {n j : Nat} (h : HeldAt w (cat Ls n) k) (hj : j < n) : HeldAt w (Ls j) (k + (Marks.cat Ls j).length) := by
  have e : ∃ T, Marks.cat Ls n = Marks.cat Ls j ++ (Ls j ++ T) := by
    have h1 : ∀ d, ∃ T, Marks.cat Ls (j + 1 + d) = Marks.cat Ls (j + 1) ++ T := by
      intro d
      induction d with
      | zero => exact ⟨[], by simp⟩
      | succ d ih =>
        obtain ⟨T, e⟩ := ih
        exact ⟨T ++ Ls (j + 1 + d), by rw [← Nat.add_assoc, cat_succ Ls (j + 1 + d), e, List.append_assoc]⟩
    obtain ⟨T, e⟩ := h1 (n - (j + 1))
    rw [show j + 1 + (n - (j + 1)) = n by omega, cat_succ, List.append_assoc] at e
    exact ⟨T, e⟩
  obtain ⟨T, e⟩ := e
  rw [e] at h
  exact h.right.left
end
theorem RowV.drewN {P : Nat → Prop} {w : World} {t : Ty} {A : Option Addr} {n : Nat} {L : List Cel} (h : RowV P w t A n L) (m : Nat) : RowV P (w.drewN m) t A n L := RowV.mk (Q := fun _ => False) ((Mk.refl _ w).drewN m) h
theorem HeldAt.drewN {w : World} {L : List Cel} {k : Int} (h : HeldAt w L k) (m : Nat) : HeldAt (w.drewN m) L k := h
theorem wrap_in {n : Int} (h0 : -9223372036854775808 ≤ n) (h1 : n ≤ 9223372036854775807) : wrap64 n = n := by
  unfold wrap64
  omega
end Go.Proofs.Ythbcnakmnbilhaa.Marks
namespace Go.Proofs.Ythbcnakmnbilhaa.Marks
open Go.RowKit Go.Proofs.YthbcnakmnbilhaaW.PrintWords Go.Proofs.YthbcnakmnbilhaaW.PrintLast Go.Proofs.YthbcnakmnbilhaaW.PrintMore
set_option linter.unusedVariables false
set_option linter.unusedSimpArgs false
def addr2 (c : Cel) : Nat × Nat := (c.1, c.2.1)
def CellAt (w : World) (g o : Nat) : Prop := ∃ (cs : Array Value) (t : TypeId), w.heap[g]? = some (.cells cs t (0, 0)) ∧ o < cs.size
section
variable {P Q : Nat → Prop} {w w' w0 w1 w2 W W' : World} {g o n : Nat} {k k2 : Int} {L M : List Cel} {A : Option Addr} {t : Ty}
theorem CellAt.set (h : CellAt w g o) (b p : Nat) (v : Value) : CellAt (w.setCell ⟨b, p, none⟩ v) g o := by
  obtain ⟨cs, t, h1, h2⟩ := h
  by_cases e : g = b
  · subst e
    exact ⟨_, t, blk_set h1 p v, by simpa using h2⟩
  · exact ⟨cs, t, blk_far h1 (p := ⟨b, p, none⟩) e v, h2⟩
theorem IntAt.at_ (h : IntAt w g o) : CellAt w g o := by
  obtain ⟨cs, t, n, h1, h2⟩ := h
  exact ⟨cs, t, h1, (Array.getElem?_eq_some_iff.1 h2).1⟩
theorem BoolAt.at_ (h : BoolAt w g o) : CellAt w g o := by
  obtain ⟨cs, t, n, h1, h2⟩ := h
  exact ⟨cs, t, h1, (Array.getElem?_eq_some_iff.1 h2).1⟩
theorem CellAt.self (h : CellAt w g o) (v : Value) : (w.setCell ⟨g, o, none⟩ v).cell? ⟨g, o, none⟩ = some v := by
  obtain ⟨cs, t, h1, h2⟩ := h
  rw [blk_cell (blk_set h1 o v) o, Array.getElem?_setIfInBounds_self]
  simp [h2]
theorem writes_other : ∀ (L : List Cel) (w : World) (k : Int) (g o : Nat), (g, o) ∉ L.map addr2 → (writes w L k).cell? ⟨g, o, none⟩ = w.cell? ⟨g, o, none⟩
  | [], w, k, g, o, _ => rfl
  | c :: L, w, k, g, o, h => by
    rw [List.map_cons, List.mem_cons, not_or] at h
    rw [writes, writes_other L _ _ _ _ h.2]
    exact World.cell?_setCell_other (w := w) (a := ⟨c.1, c.2.1, none⟩) (b := ⟨g, o, none⟩) (v := cellv c.2.2 k) (h := fun e => h.1 (by injection e with e1 e2; rw [addr2, e1, e2]))
theorem held_writes : ∀ (L : List Cel) (w : World) (k : Int), (∀ c ∈ L, CellAt w c.1 c.2.1) → (L.map addr2).Nodup → HeldAt (writes w L k) L k
  | [], w, k, _, _ => fun j c hj => by simp at hj
  | c :: L, w, k, hc, hn => by
    rw [List.map_cons, List.nodup_cons] at hn
    intro j d hj
    cases j with
    | zero =>
      have e : d = c := by simpa using hj.symm
      subst e
      rw [writes, writes_other L _ _ d.1 d.2.1 (by exact hn.1), (hc d List.mem_cons_self).self]
      simp
    | succ j =>
      have h2 := held_writes L (w.setCell ⟨c.1, c.2.1, none⟩ (cellv c.2.2 k)) (k + 1) (fun d hd => (hc d (List.mem_cons_of_mem _ hd)).set _ _ _) hn.2 j d (by simpa using hj)
      rw [writes, h2]
      congr 2
      push_cast
      omega
theorem HeldAt.of_heap (h : HeldAt w L k) (hh : ∀ c ∈ L, w'.heap[c.1]? = w.heap[c.1]?) : HeldAt w' L k := fun j c hj => by
  have := hh c (List.mem_of_getElem? hj)
  rw [← h j c hj]
  simp [World.cell?, this]
theorem set_heap (w w' : World) (a : Addr) (v : Value) (g : Nat) (h : w.heap[g]? = w'.heap[g]?) : (w.setCell a v).heap[g]? = (w'.setCell a v).heap[g]? := by
  simp only [World.setCell, Array.getElem?_modify, h]
theorem writes_local : ∀ (L : List Cel) (w w' : World) (k : Int) (g : Nat), w.heap[g]? = w'.heap[g]? → (writes w L k).heap[g]? = (writes w' L k).heap[g]?
  | [], w, w', k, g, h => h
  | c :: L, w, w', k, g, h => by
    rw [writes, writes]
    exact writes_local L _ _ _ g (set_heap _ _ _ _ _ h)
def WrB (w : World) (L : List Cel) (k : Int) (w' : World) : Prop := ∀ g, g < w.heap.size → w'.heap[g]? = (writes w L k).heap[g]?
theorem Wr.B (h : Wr w L k w') : WrB w L k w' := by
  obtain ⟨n, rfl⟩ := h
  exact fun g _ => rfl
theorem WrB.nil (hb : Below w.heap.size w w') : WrB w [] k w' := fun g hg => hb.block g hg
theorem WrB.trans (h : WrB w L k w1) (hs : w.heap.size ≤ w1.heap.size) (h2 : WrB w1 M k2 w2) (e : k2 = k + L.length) : WrB w (L ++ M) k w2 := fun g hg => by
  rw [h2 g (Nat.lt_of_lt_of_le hg hs), writes_append, e]
  exact writes_local M _ _ _ g (h g hg)
theorem WrB.held (h : WrB w L k w') (hc : ∀ c ∈ L, CellAt w c.1 c.2.1) (hn : (L.map addr2).Nodup) : HeldAt w' L k :=
  (held_writes L w k hc hn).of_heap (fun c hm => by
    obtain ⟨cs, t, h1, _⟩ := hc c hm
    exact h c.1 (blk_lt h1))
theorem Vis.cells : ∀ {t : Ty} {g o : Nat} {L : List Cel}, Vis P w t g o L → ∀ c ∈ L, CellAt w c.1 c.2.1 ∧ (c.1 = g ∨ P c.1)
  | .int, g, o, L, h, c, hm => by
    obtain ⟨rfl, h2⟩ := h
    obtain rfl := List.mem_singleton.1 hm
    exact ⟨h2.at_, .inl rfl⟩
  | .bool, g, o, L, h, c, hm => by
    obtain ⟨rfl, h2⟩ := h
    obtain rfl := List.mem_singleton.1 hm
    exact ⟨h2.at_, .inl rfl⟩
  | .pair a b, g, o, L, ⟨L1, L2, e, h1, h2⟩, c, hm => by
    subst e
    rcases List.mem_append.1 hm with hm | hm
    · exact Vis.cells h1 c hm
    · exact Vis.cells h2 c hm
  | .sl a, g, o, L, ⟨A, n, cp, hs, hb, Ls, e, h⟩, c, hm => by
    subst e
    obtain ⟨i, hi, hm⟩ := List.mem_flatMap.1 hm
    rw [List.mem_range] at hi
    obtain ⟨g', e', hp, hv⟩ := h (by omega)
    obtain ⟨h1, h2⟩ := Vis.cells (hv i hi) c hm
    exact ⟨h1, .inr (h2.elim (fun e => e ▸ hp) id)⟩
theorem RowV.cells (h : RowV P w t A n L) : ∀ c ∈ L, CellAt w c.1 c.2.1 ∧ P c.1 := fun c hm => by
  obtain ⟨hb, Ls, e, h⟩ := h
  subst e
  obtain ⟨i, hi, hm⟩ := List.mem_flatMap.1 hm
  rw [List.mem_range] at hi
  obtain ⟨g', e', hp, hv⟩ := h (by omega)
  obtain ⟨h1, h2⟩ := Vis.cells (hv i hi) c hm
  exact ⟨h1, h2.elim (fun e => e ▸ hp) id⟩
theorem Vis.mono (hp : ∀ k, P k → Q k) : ∀ {t : Ty} {g o : Nat} {L : List Cel}, Vis P w t g o L → Vis Q w t g o L
  | .int, _, _, _, h => h
  | .bool, _, _, _, h => h
  | .pair a b, _, _, _, ⟨L1, L2, e, h1, h2⟩ => ⟨L1, L2, e, Vis.mono hp h1, Vis.mono hp h2⟩
  | .sl a, _, _, _, ⟨A, n, c, hs, hb, Ls, e, h⟩ => ⟨A, n, c, hs, hb, Ls, e, fun hn => by
    obtain ⟨g', e', hp', hi⟩ := h hn
    exact ⟨g', e', hp _ hp', fun i hl => Vis.mono hp (hi i hl)⟩⟩
theorem RowV.mono (hp : ∀ k, P k → Q k) (h : RowV P w t A n L) : RowV Q w t A n L := by
  obtain ⟨hb, Ls, e, h⟩ := h
  exact ⟨hb, Ls, e, fun hn => by
    obtain ⟨g', e', hp', hi⟩ := h hn
    exact ⟨g', e', hp _ hp', fun i hl => Vis.mono hp (hi i hl)⟩⟩
end
structure Rep {α : Type} (d : Kd α) (T : Ty) (wt : α → Nat) : Prop where
  sz : d.sz = T.sz
  vis : ∀ {w : World} {base : Nat} {ok : Nat → Prop} {x : α} {cs : List Value}, d.M w base ok x cs → ∀ (g o : Nat) (cells : Array Value) (t : TypeId), w.heap[g]? = some (.cells cells t (0, 0)) → (∀ i u, cs[i]? = some u → cells[o + i]? = some u) → ∃ L, Vis ok w T g o L ∧ L.length = wt x
theorem Rep.int : Rep (Kd.int .i64) .int (fun _ => 1) := ⟨rfl, fun {w base ok x cs} hM g o cells t hb hc => by
  have e : cs = [.int .i64 x] := hM
  subst e
  exact ⟨_, ⟨rfl, cells, t, x, hb, by simpa using hc 0 _ rfl⟩, rfl⟩⟩
theorem Rep.bool : Rep Kd.bool .bool (fun _ => 1) := ⟨rfl, fun {w base ok x cs} hM g o cells t hb hc => by
  have e : cs = [.bool x] := hM
  subst e
  exact ⟨_, ⟨rfl, cells, t, x, hb, by simpa using hc 0 _ rfl⟩, rfl⟩⟩
theorem Rep.pair {α β : Type} {a : Kd α} {b : Kd β} {S T : Ty} {wa : α → Nat} {wb : β → Nat} (ha : Rep a S wa) (hb : Rep b T wb) : Rep (Kd.pair a b) (.pair S T) (fun x => wa x.1 + wb x.2) :=
  ⟨by show a.sz + b.sz = S.sz + T.sz; rw [ha.sz, hb.sz], fun {w base ok x cs} hM g o cells t hbk hc => by
    obtain ⟨c0, c1, rfl, h0, h1⟩ := hM
    have l0 : c0.length = S.sz := by rw [a.K_len (a.K_of_M h0), ha.sz]
    obtain ⟨L1, v1, e1⟩ := ha.vis h0 g o cells t hbk (fun i u hi => hc i u (by rw [List.getElem?_append_left (List.getElem?_eq_some_iff.1 hi).1]; exact hi))
    obtain ⟨L2, v2, e2⟩ := hb.vis h1 g (o + S.sz) cells t hbk (fun i u hi => by
      have := hc (S.sz + i) u (by rw [List.getElem?_append_right (by omega), l0, Nat.add_sub_cancel_left]; exact hi)
      rwa [← Nat.add_assoc] at this)
    exact ⟨L1 ++ L2, ⟨L1, L2, rfl, v1, v2⟩, by rw [List.length_append, e1, e2]⟩⟩
theorem Rep.iso {α β : Type} {d : Kd α} {T : Ty} {wt : α → Nat} (h : Rep d T wt) (f : β → α) : Rep (Kd.iso d f) T (fun x => wt (f x)) := ⟨h.sz, fun {w base ok x cs} hM => h.vis hM⟩
def wsum {α : Type} (wt : α → Nat) : List α → Nat
  | [] => 0
  | x :: r => wt x + wsum wt r
theorem cat_len {α : Type} (wt : α → Nat) : ∀ (xs : List α) (Ls : Nat → List Cel), (∀ i x, xs[i]? = some x → (Ls i).length = wt x) → (cat Ls xs.length).length = wsum wt xs := by
  intro xs Ls h
  have key : ∀ n, n ≤ xs.length → (cat Ls n).length = wsum wt (xs.take n) := by
    intro n
    induction n with
    | zero => intro _; simp [cat, wsum]
    | succ n ih =>
      intro hn
      have hw : ∀ (a b : List α), wsum wt (a ++ b) = wsum wt a + wsum wt b := by
        intro a b
        induction a with
        | nil => simp [wsum]
        | cons y r ih => rw [List.cons_append, wsum, wsum, ih]; omega
      rw [cat_succ, List.length_append, ih (by omega), List.take_succ_eq_append_getElem (show n < xs.length by omega), hw, h n xs[n] (List.getElem?_eq_getElem (by omega))]
      simp [wsum]
  rw [key xs.length (Nat.le_refl _), List.take_length]
theorem Rep.row {α : Type} {d : Kd α} {T : Ty} {wt : α → Nat} (h : Rep d T wt) {e : Nat} {w : World} {base : Nat} {ok : Nat → Prop} {v : Value} {xs : List α} (hR : d.R e w base ok v xs) :
    ∃ A c L, v = .slice A xs.length c ∧ RowV ok w T A xs.length L ∧ L.length = wsum wt xs := by
  obtain ⟨h0, inner, ho, hr⟩ := hR
  have ho2 := ho.2
  rcases ho2 with ⟨rfl, hn⟩ | ⟨g, cap, cur, rfl, hg, hh, hcap, hmax, hsz, htk⟩
  · obtain rfl := List.eq_nil_of_length_eq_zero hn
    exact ⟨none, 0, [], rfl, ⟨by simp, fun _ => [], rfl, fun h => absurd h (by simp)⟩, rfl⟩
  · have hmx : xs.length ≤ 9223372036854775807 := by have : cap ≤ 9223372036854775807 := hmax; omega
    have key : ∀ i x, xs[i]? = some x → ∃ L, Vis ok w T g (i * T.sz) L ∧ L.length = wt x := fun i x hi => by
      have hM := hr.2 i x hi
      have hil : i < xs.length := (List.getElem?_eq_some_iff.1 hi).1
      have hM2 := d.M_mono (ok' := ok) (fun k hk => hk.1) hM
      obtain ⟨L, v1, e1⟩ := h.vis hM2 g (i * T.sz) cur e hh (fun j u hj => by
        have hjl : j < d.sz := by
          have := (List.getElem?_eq_some_iff.1 hj).1
          rw [List.length_take] at this
          omega
        rw [List.getElem?_take, if_pos hjl, List.getElem?_drop, ← htk] at hj
        have hlt : i * d.sz + j < xs.length * d.sz := by
          have : (i + 1) * d.sz ≤ xs.length * d.sz := Nat.mul_le_mul_right _ hil
          rw [Nat.add_mul, Nat.one_mul] at this
          omega
        rw [List.getElem?_take, if_pos hlt, Array.getElem?_toList] at hj
        rw [← h.sz]
        exact hj)
      exact ⟨L, v1, e1⟩
    classical
    have : ∃ Ls : Nat → List Cel, ∀ i x, xs[i]? = some x → Vis ok w T g (i * T.sz) (Ls i) ∧ (Ls i).length = wt x := by
      refine ⟨fun i => if h : ∃ x, xs[i]? = some x then (key i h.choose h.choose_spec).choose else [], fun i x hi => ?_⟩
      have hex : ∃ x, xs[i]? = some x := ⟨x, hi⟩
      have ex : hex.choose = x := Option.some.inj (hex.choose_spec.symm.trans hi)
      simp only [dif_pos hex]
      have hs := (key i hex.choose hex.choose_spec).choose_spec
      exact ⟨hs.1, by rw [hs.2, ex]⟩
    obtain ⟨Ls, hLs⟩ := this
    refine ⟨some ⟨g, 0, none⟩, cap, cat Ls xs.length, rfl, ⟨hmx, Ls, rfl, fun _ => ⟨g, rfl, h0 g rfl, fun i hi => (hLs i xs[i] (List.getElem?_eq_getElem hi)).1⟩⟩, cat_len wt xs Ls (fun i x hi => (hLs i x hi).2)⟩
theorem Rep.slice {α : Type} {d : Kd α} {T : Ty} {wt : α → Nat} (h : Rep d T wt) (e : Nat) : Rep (Kd.slice e d) (.sl T) (wsum wt) :=
  ⟨rfl, fun {w base ok x cs} hM g o cells t hb hc => by
    obtain ⟨v, rfl, hR⟩ := hM
    obtain ⟨A, c, L, rfl, ⟨hmx, Ls, e1, hrow⟩, hl⟩ := h.row hR
    exact ⟨L, ⟨A, x.length, c, ⟨cells, t, hb, by simpa using hc 0 _ rfl⟩, hmx, Ls, e1, hrow⟩, hl⟩⟩
end Go.Proofs.Ythbcnakmnbilhaa.Marks
namespace Go.Proofs.Ythbcnakmnbilhaa.LawKit
open Go.RowKit Go.Proofs.YthbcnakmnbilhaaW.PrintWords Go.Proofs.YthbcnakmnbilhaaW.PrintLast Go.Proofs.YthbcnakmnbilhaaW.PrintMore Go.Proofs.Ythbcnakmnbilhaa.Marks
set_option linter.unusedVariables false
set_option linter.unusedSimpArgs false
def St (lo hi : Nat) (Q : World → Prop) (W : World) : Prop := hi ≤ W.heap.size ∧ ∀ W' : World, (∀ g, lo ≤ g → g < hi → W'.heap[g]? = W.heap[g]?) → Q W'
section
variable {lo hi g o : Nat} {Q : World → Prop} {W W' : World} {P : Nat → Prop}
theorem St.now (h : St lo hi Q W) : Q W := h.2 W (fun _ _ _ => rfl)
theorem St.keep (h : St lo hi Q W) (hs : W.heap.size ≤ W'.heap.size) (hk : ∀ g, lo ≤ g → g < hi → W'.heap[g]? = W.heap[g]?) : St lo hi Q W' :=
  ⟨Nat.le_trans h.1 hs, fun W2 h2 => h.2 W2 (fun g h3 h4 => (h2 g h3 h4).trans (hk g h3 h4))⟩
theorem St.below (h : St lo hi Q W) (hb : Below W.heap.size W W') : St lo hi Q W' := h.keep hb.size (fun g _ h4 => hb.block g (Nat.lt_of_lt_of_le h4 h.1))
theorem St.drew (h : St lo hi Q W) : St lo hi Q W.drew := h.keep (Nat.le_refl _) (fun _ _ _ => rfl)
theorem St.drewN (h : St lo hi Q W) (n : Nat) : St lo hi Q (W.drewN n) := h.keep (Nat.le_refl _) (fun _ _ _ => rfl)
theorem St.set (h : St lo hi Q W) (hg : hi ≤ g) (v : Value) : St lo hi Q (W.setCell ⟨g, o, none⟩ v) :=
  h.keep (by simp [World.setCell]) (fun k _ h4 => Below.heap_setCell W ⟨g, o, none⟩ v k (by show k ≠ g; omega))
end
section
variable {α : Type} {d : Kd α} {e lo hi : Nat} {W : World} {A : Option Addr} {n c : Nat} {xs : List α}
theorem St.reads (h : St lo hi (fun w => Kd.R d e w lo (fun k => lo ≤ k ∧ k < hi) (.slice A xs.length c) xs) W) : d.C W A xs.length xs := (Kd.R_reads' h.now).2.2
end
end Go.Proofs.Ythbcnakmnbilhaa.LawKit
namespace Go.Proofs.Ythbcnakmnbilhaa.SepMark
open Go.RowKit Go.Proofs.YthbcnakmnbilhaaW.PrintWords Go.Proofs.YthbcnakmnbilhaaW.PrintLast Go.Proofs.YthbcnakmnbilhaaW.PrintMore Go.Proofs.Ythbcnakmnbilhaa.Marks Go.Proofs.Ythbcnakmnbilhaa.LawKit
set_option linter.unusedVariables false
set_option linter.unusedSimpArgs false
def In2 (ok : Nat → Prop) (g o n : Nat) (L : List Cel) : Prop := ∀ a ∈ L.map addr2, (a.1 = g ∧ o ≤ a.2 ∧ a.2 < o + n) ∨ (a.1 ≠ g ∧ ok a.1)
structure RepN {α : Type} (d : Kd α) (T : Ty) (wt : α → Nat) : Prop where
  sz : d.sz = T.sz
  vis : ∀ {w : World} {base : Nat} {ok : Nat → Prop} {x : α} {cs : List Value}, d.M w base ok x cs → ∀ (g o : Nat) (cells : Array Value) (t : TypeId), ¬ ok g → w.heap[g]? = some (.cells cells t (0, 0)) → (∀ i u, cs[i]? = some u → cells[o + i]? = some u) →
    ∃ L, Vis ok w T g o L ∧ L.length = wt x ∧ (L.map addr2).Nodup ∧ In2 ok g o T.sz L
def Flat {α : Type} (d : Kd α) (T : Ty) : Prop := ∀ {w : World} {ok : Nat → Prop} {g o : Nat} {L : List Cel}, Vis ok w T g o L → ∀ a ∈ L.map addr2, a.1 = g
theorem Flat.int : Flat (Kd.int .i64) .int := fun {w ok g o L} h a ha => by
  have e := h.1
  subst e
  have : a = addr2 (g, o, false) := by simpa using ha
  rw [this]
  rfl
theorem Flat.bool : Flat Kd.bool .bool := fun {w ok g o L} h a ha => by
  have e := h.1
  subst e
  have : a = addr2 (g, o, true) := by simpa using ha
  rw [this]
  rfl
theorem Flat.pair {α β : Type} {a : Kd α} {b : Kd β} {S T : Ty} (ha : Flat a S) (hb : Flat b T) : Flat (Kd.pair a b) (.pair S T) := fun {w ok g o L} h x hx => by
  obtain ⟨L1, L2, e, h1, h2⟩ := h
  subst e
  rw [List.map_append, List.mem_append] at hx
  exact hx.elim (ha h1 x) (hb h2 x)
theorem RepN.int : RepN (Kd.int .i64) .int (fun _ => 1) := ⟨rfl, fun {w base ok x cs} hM g o cells t hg hb hc => by
  have e : cs = [.int .i64 x] := hM
  subst e
  exact ⟨_, ⟨rfl, cells, t, x, hb, by simpa using hc 0 _ rfl⟩, rfl, by simp, fun a ha => by
    have : a = addr2 (g, o, false) := by simpa using ha
    rw [this]
    exact .inl ⟨rfl, Nat.le_refl _, Nat.lt_succ_self _⟩⟩⟩
theorem RepN.bool : RepN Kd.bool .bool (fun _ => 1) := ⟨rfl, fun {w base ok x cs} hM g o cells t hg hb hc => by
  have e : cs = [.bool x] := hM
  subst e
  exact ⟨_, ⟨rfl, cells, t, x, hb, by simpa using hc 0 _ rfl⟩, rfl, by simp, fun a ha => by
    have : a = addr2 (g, o, true) := by simpa using ha
    rw [this]
    exact .inl ⟨rfl, Nat.le_refl _, Nat.lt_succ_self _⟩⟩⟩
theorem RepN.pair {α β : Type} {a : Kd α} {b : Kd β} {S T : Ty} {wa : α → Nat} {wb : β → Nat} (ha : RepN a S wa) (hb : RepN b T wb) (hf : Flat a S ∨ Flat b T) : RepN (Kd.pair a b) (.pair S T) (fun x => wa x.1 + wb x.2) :=
  ⟨by show a.sz + b.sz = S.sz + T.sz; rw [ha.sz, hb.sz], fun {w base ok x cs} hM g o cells t hg hbk hc => by
    obtain ⟨c0, c1, rfl, h0, h1⟩ := hM
    have l0 : c0.length = S.sz := by rw [a.K_len (a.K_of_M h0), ha.sz]
    obtain ⟨L1, v1, e1, n1, i1⟩ := ha.vis h0 g o cells t hg hbk (fun i u hi => hc i u (by rw [List.getElem?_append_left (List.getElem?_eq_some_iff.1 hi).1]; exact hi))
    obtain ⟨L2, v2, e2, n2, i2⟩ := hb.vis h1 g (o + S.sz) cells t hg hbk (fun i u hi => by
      have := hc (S.sz + i) u (by rw [List.getElem?_append_right (by omega), l0, Nat.add_sub_cancel_left]; exact hi)
      rwa [← Nat.add_assoc] at this)
    refine ⟨L1 ++ L2, ⟨L1, L2, rfl, v1, v2⟩, by rw [List.length_append, e1, e2], ?_, fun y hy => ?_⟩
    · rw [List.map_append]
      refine List.nodup_append.2 ⟨n1, n2, fun y hy z hz e => ?_⟩
      subst e
      rcases i1 y hy with ⟨p1, p2, p3⟩ | ⟨p1, p2⟩
      · rcases i2 y hz with ⟨q1, q2, q3⟩ | ⟨q1, q2⟩
        · omega
        · exact q1 p1
      · rcases i2 y hz with ⟨q1, q2, q3⟩ | ⟨q1, q2⟩
        · exact p1 q1
        · exact hf.elim (fun h => p1 (h v1 y hy)) (fun h => q1 (h v2 y hz))
    · rw [List.map_append, List.mem_append] at hy
      rcases hy with hy | hy
      · rcases i1 y hy with ⟨p1, p2, p3⟩ | ⟨p1, p2⟩
        · exact .inl ⟨p1, p2, by show y.2 < o + (S.sz + T.sz); omega⟩
        · exact .inr ⟨p1, p2⟩
      · rcases i2 y hy with ⟨p1, p2, p3⟩ | ⟨p1, p2⟩
        · exact .inl ⟨p1, by omega, by show y.2 < o + (S.sz + T.sz); omega⟩
        · exact .inr ⟨p1, p2⟩⟩
theorem RepN.iso {α β : Type} {d : Kd α} {T : Ty} {wt : α → Nat} (h : RepN d T wt) (f : β → α) : RepN (Kd.iso d f) T (fun x => wt (f x)) := ⟨h.sz, fun {w base ok x cs} hM => h.vis hM⟩
theorem cat_nodup {ok : Nat → Prop} {g sz n : Nat} {Ls : Nat → List Cel} {f : Nat → Nat} (hn : ∀ i, i < n → ((Ls i).map addr2).Nodup) (hi : ∀ i, i < n → In2 (fun k => ok k ∧ f k = i) g (i * sz) sz (Ls i)) :
    ((cat Ls n).map addr2).Nodup ∧ ∀ a ∈ (cat Ls n).map addr2, (a.1 = g ∧ a.2 < n * sz) ∨ (a.1 ≠ g ∧ ok a.1 ∧ f a.1 < n) := by
  induction n with
  | zero => exact ⟨by simp [cat], by simp [cat]⟩
  | succ n ih =>
    obtain ⟨i1, i2⟩ := ih (fun i h => hn i (by omega)) (fun i h => hi i (by omega))
    have e : (n + 1) * sz = n * sz + sz := by rw [Nat.add_mul, Nat.one_mul]
    rw [cat_succ, List.map_append]
    refine ⟨List.nodup_append.2 ⟨i1, hn n (by omega), fun y hy z hz e => ?_⟩, fun y hy => ?_⟩
    · subst e
      rcases i2 y hy with ⟨p1, p2⟩ | ⟨p1, p2, p3⟩
      · rcases hi n (by omega) y hz with ⟨q1, q2, q3⟩ | ⟨q1, q2⟩
        · omega
        · exact q1 p1
      · rcases hi n (by omega) y hz with ⟨q1, q2, q3⟩ | ⟨q1, q2, q3⟩
        · exact p1 q1
        · omega
    · rcases List.mem_append.1 hy with hy | hy
      · rcases i2 y hy with ⟨p1, p2⟩ | ⟨p1, p2, p3⟩
        · exact .inl ⟨p1, by omega⟩
        · exact .inr ⟨p1, p2, by omega⟩
      · rcases hi n (by omega) y hy with ⟨q1, q2, q3⟩ | ⟨q1, q2, q3⟩
        · exact .inl ⟨q1, by omega⟩
        · exact .inr ⟨q1, q2, by omega⟩
theorem RepN.row {α : Type} {d : Kd α} {T : Ty} {wt : α → Nat} (h : RepN d T wt) {e : Nat} {w : World} {base : Nat} {ok : Nat → Prop} {v : Value} {xs : List α} (hS : Kd.S d e w base ok v xs) :
    ∃ A c L, v = .slice A xs.length c ∧ RowV ok w T A xs.length L ∧ L.length = wsum wt xs ∧ (L.map addr2).Nodup ∧ ∀ a ∈ L.map addr2, ok a.1 := by
  obtain ⟨f, h0, inner, ho, hr⟩ := hS
  have hl : xs.zipIdx.length = xs.length := List.length_zipIdx
  rw [hl] at ho
  have ho2 := ho.2
  rcases ho2 with ⟨rfl, hn⟩ | ⟨g, cap, cur, rfl, hg, hh, hcap, hmax, hsz, htk⟩
  · obtain rfl := List.eq_nil_of_length_eq_zero hn
    exact ⟨none, 0, [], rfl, ⟨by simp, fun _ => [], rfl, fun h => absurd h (by simp)⟩, rfl, by simp, by simp⟩
  · have hmx : xs.length ≤ 9223372036854775807 := by have : cap ≤ 9223372036854775807 := hmax; omega
    have key : ∀ i x, xs[i]? = some x → ∃ L, Vis ok w T g (i * T.sz) L ∧ L.length = wt x ∧ (L.map addr2).Nodup ∧ In2 (fun k => ok k ∧ f k = i) g (i * T.sz) T.sz L := fun i x hi => by
      have hM : d.M w base (fun k => (ok k ∧ some k ≠ some g) ∧ f k = i) x _ := hr.2 i (x, i) (Kd.zip_at hi)
      have hil : i < xs.length := (List.getElem?_eq_some_iff.1 hi).1
      obtain ⟨L, v1, e1, n1, i1⟩ := h.vis hM g (i * T.sz) cur e (fun hk => hk.1.2 rfl) hh (fun j u hj => by
        have hjl : j < d.sz := by
          have := (List.getElem?_eq_some_iff.1 hj).1
          rw [List.length_take] at this
          exact Nat.lt_of_lt_of_le this (Nat.min_le_left _ _)
        have hj2 : (inner.drop (i * d.sz))[j]? = some u := by
          rw [List.getElem?_take] at hj
          split at hj
          · exact hj
          · cases hj
        rw [List.getElem?_drop, ← htk] at hj2
        have hlt : i * d.sz + j < xs.length * d.sz := by
          have : (i + 1) * d.sz ≤ xs.length * d.sz := Nat.mul_le_mul_right _ hil
          rw [Nat.add_mul, Nat.one_mul] at this
          omega
        have hj3 : (cur.toList.take (xs.length * d.sz))[i * d.sz + j]? = some u := hj2
        rw [List.getElem?_take, if_pos hlt, Array.getElem?_toList] at hj3
        rw [← h.sz]
        exact hj3)
      exact ⟨L, Vis.mono (fun k hk => hk.1.1) v1, e1, n1, fun a ha => (i1 a ha).imp id (fun p => ⟨p.1, p.2.1.1, p.2.2⟩)⟩
    classical
    have : ∃ Ls : Nat → List Cel, ∀ i x, xs[i]? = some x → Vis ok w T g (i * T.sz) (Ls i) ∧ (Ls i).length = wt x ∧ ((Ls i).map addr2).Nodup ∧ In2 (fun k => ok k ∧ f k = i) g (i * T.sz) T.sz (Ls i) := by
      refine ⟨fun i => if h : ∃ x, xs[i]? = some x then (key i h.choose h.choose_spec).choose else [], fun i x hi => ?_⟩
      have hex : ∃ x, xs[i]? = some x := ⟨x, hi⟩
      have ex : hex.choose = x := Option.some.inj (hex.choose_spec.symm.trans hi)
      simp only [dif_pos hex]
      have hs := (key i hex.choose hex.choose_spec).choose_spec
      exact ⟨hs.1, by rw [hs.2.1, ex], hs.2.2⟩
    obtain ⟨Ls, hLs⟩ := this
    have get : ∀ i, (hi : i < xs.length) → _ := fun i hi => hLs i xs[i] (List.getElem?_eq_getElem hi)
    obtain ⟨c1, c2⟩ := cat_nodup (ok := ok) (g := g) (sz := T.sz) (n := xs.length) (Ls := Ls) (f := f) (fun i hi => (get i hi).2.2.1) (fun i hi => (get i hi).2.2.2)
    exact ⟨some ⟨g, 0, none⟩, cap, cat Ls xs.length, rfl, ⟨hmx, Ls, rfl, fun _ => ⟨g, rfl, h0 g rfl, fun i hi => (get i hi).1⟩⟩, cat_len wt xs Ls (fun i x hi => (hLs i x hi).2.1), c1,
      fun a ha => (c2 a ha).elim (fun p => p.1 ▸ h0 g rfl) (fun p => p.2.1)⟩
def Loose {α : Type} (d : Kd α) : Prop := ∀ {w : World} {base : Nat} {ok ok' : Nat → Prop} {x : α} {cs : List Value}, d.M w base ok x cs → d.M w base ok' x cs
theorem Loose.int : Loose (Kd.int .i64) := fun h => h
theorem Loose.bool : Loose Kd.bool := fun h => h
theorem Loose.pair {α β : Type} {a : Kd α} {b : Kd β} (ha : Loose a) (hb : Loose b) : Loose (Kd.pair a b) := fun h => by
  obtain ⟨c0, c1, e, h0, h1⟩ := h
  exact ⟨c0, c1, e, ha h0, hb h1⟩
theorem Loose.iso {α β : Type} {d : Kd α} (h : Loose d) (f : β → α) : Loose (Kd.iso d f) := fun hM => h hM
theorem Loose.S {α : Type} {d : Kd α} (h : Loose d) {e : Nat} {w : World} {base : Nat} {ok : Nat → Prop} {v : Value} {xs : List α} (hR : d.R e w base ok v xs) : Kd.S d e w base ok v xs := by
  obtain ⟨h0, inner, ho, hr⟩ := hR
  have hl : xs.zipIdx.length = xs.length := List.length_zipIdx
  refine ⟨fun _ => 0, h0, inner, by rw [hl]; exact ho, by have := hr.1; rw [hl]; exact this, fun j p hj => ?_⟩
  have hp : xs[j]? = some p.1 := by
    rw [List.getElem?_zipIdx] at hj
    cases hx : xs[j]? with
    | none => rw [hx] at hj; cases hj
    | some y => rw [hx] at hj; obtain rfl := Option.some.inj hj; rfl
  exact h (hr.2 j p.1 hp)
theorem RepN.slice {α : Type} {d : Kd α} {T : Ty} {wt : α → Nat} (h : RepN d T wt) (hl : Loose d) (e : Nat) : RepN (Kd.slice e d) (.sl T) (wsum wt) :=
  ⟨rfl, fun {w base ok x cs} hM g o cells t hg hb hc => by
    obtain ⟨v, rfl, hR⟩ := hM
    obtain ⟨A, c, L, rfl, ⟨hmx, Ls, e1, hrow⟩, hl2, hn, hok⟩ := h.row (hl.S hR)
    exact ⟨L, ⟨A, x.length, c, ⟨cells, t, hb, by simpa using hc 0 _ rfl⟩, hmx, Ls, e1, hrow⟩, hl2, hn, fun a ha => .inr ⟨fun e2 => hg (e2 ▸ hok a ha), hok a ha⟩⟩⟩
def sslice {α : Type} (e : Nat) (d : Kd α) : Kd (List α) where
  sz := 1
  E := e :: d.E
  K := (Kd.slice e d).K
  M := fun w base ok xs cs => ∃ v, cs = [v] ∧ Kd.S d e w base ok v xs
  K_len := (Kd.slice e d).K_len
  K_one := (Kd.slice e d).K_one
  K_below := (Kd.slice e d).K_below
  K_of_M := by
    rintro w base ok x cs ⟨v, rfl, h⟩
    exact (Kd.slice e d).K_of_M ⟨v, rfl, Kd.S_R h⟩
  M_mono := by
    rintro w base ok ok' x cs hok ⟨v, rfl, h⟩
    exact ⟨v, rfl, Kd.S_mono h hok⟩
  M_bound := by
    rintro w base ok x cs ⟨v, rfl, h⟩
    exact ⟨v, rfl, Kd.S_bound h⟩
  M_move := by
    rintro w w1 base ok x cs hm ⟨v, rfl, h⟩
    exact ⟨v, rfl, Kd.S_move h hm⟩
  M_lower := by
    rintro w base base' ok x cs hb ⟨v, rfl, h⟩
    exact ⟨v, rfl, Kd.S_lower h hb⟩
theorem sslice_M {α : Type} {d : Kd α} {e : Nat} {w : World} {base : Nat} {ok : Nat → Prop} {xs : List α} {cs : List Value} (h : (sslice e d).M w base ok xs cs) : (Kd.slice e d).M w base ok xs cs := by
  obtain ⟨v, rfl, h⟩ := h
  exact ⟨v, rfl, Kd.S_R h⟩
theorem RepN.sslice {α : Type} {d : Kd α} {T : Ty} {wt : α → Nat} (h : RepN d T wt) (e : Nat) : RepN (SepMark.sslice e d) (.sl T) (wsum wt) :=
  ⟨rfl, fun {w base ok x cs} hM g o cells t hg hb hc => by
    obtain ⟨v, rfl, hR⟩ := hM
    obtain ⟨A, c, L, rfl, ⟨hmx, Ls, e1, hrow⟩, hl2, hn, hok⟩ := h.row hR
    exact ⟨L, ⟨A, x.length, c, ⟨cells, t, hb, by simpa using hc 0 _ rfl⟩, hmx, Ls, e1, hrow⟩, hl2, hn, fun a ha => .inr ⟨fun e2 => hg (e2 ▸ hok a ha), hok a ha⟩⟩⟩
theorem S_Rs {α : Type} {d : Kd α} {e e' : Nat} {w : World} {base : Nat} {ok : Nat → Prop} {v : Value} {xs : List (List α)} (h : Kd.S (sslice e d) e' w base ok v xs) : (Kd.slice e d).R e' w base ok v xs := by
  obtain ⟨h0, inner, ho, hr⟩ := Kd.S_R h
  exact ⟨h0, inner, ho, hr.imp_ (fun _ _ hp => sslice_M hp)⟩
theorem S_push {α : Type} {d : Kd α} {e e' b0 n cap gM : Nat} {W : World} {okM : Nat → Prop} {xs : List (List α)} (hS : Kd.S (sslice e d) e' W b0 okM (.slice (some ⟨gM, 0, none⟩) n cap) xs) (i : Int) (h0 : 0 ≤ i) (h1 : i < n) :
    ∃ (oki : Nat → Prop) (A : Option Addr) (c : Nat), Kd.S d e W b0 oki (.slice A (xs.getD i.toNat []).length c) (xs.getD i.toNat []) ∧ W.cell? ⟨gM, i.toNat, none⟩ = some (.slice A (xs.getD i.toNat []).length c) ∧ (∀ k, oki k → okM k ∧ k ≠ gM) ∧ (∃ cells, W.heap[gM]? = some (.cells cells e' (0, 0))) ∧
      ∀ (W1 : World) (v1 : Value) (x' : List α) (okg : Nat → Prop), W.grownBy W1 (Value.slice A (xs.getD i.toNat []).length c).ownBlock → Kd.S d e W1 b0 (fun k => oki k ∨ okg k) v1 x' → (∀ k, okg k → ¬ okM k ∧ k ≠ gM) →
        Kd.S (sslice e d) e' (W1.setCell ⟨gM, i.toNat, none⟩ v1) b0 (fun k => okM k ∨ okg k) (.slice (some ⟨gM, 0, none⟩) n cap) (xs.set i.toNat x') := by
  obtain ⟨oki, ce, hcl, hM, hcc, hfr, hoki, hH⟩ := Kd.S_elem hS [] i h0 h1
  obtain ⟨ve, rfl, hSe⟩ := hM
  obtain ⟨A, c, rfl⟩ := Kd.S_slice hSe
  have hz : i.toNat * (sslice e d).sz + 0 = i.toNat := by show i.toNat * 1 + 0 = i.toNat; omega
  have hc0 := hcc 0 _ rfl
  rw [hz] at hc0
  refine ⟨oki, A, c, hSe, hc0, hoki, Kd.S_typed hS gM rfl, fun W1 v1 x' okg hg hS1 hok => ?_⟩
  have hrow : ∀ k, (Value.slice A (xs.getD i.toNat []).length c).ownBlock = some k → oki k := (Kd.S_R hSe).1
  have hH1 := Kd.H_grown (Kd.H_mono (ok' := fun k => (okM k ∨ okg k) ∧ ¬ okg k) hH (fun k hk => ⟨.inl hk, fun hq => (hok k hq).1 hk⟩)) hg hrow
  have h2 := (Kd.S_seg (ok := fun k => okM k ∨ okg k) (okg := okg) hH1 h0 h1 (seg := [v1]) (j := 0) (show 0 + 1 ≤ 1 from Nat.le_refl _) (x' := x') (okp := fun k => oki k ∨ okg k)
    (show (sslice e d).M W1 b0 (fun k => oki k ∨ okg k) x' [v1] from ⟨v1, rfl, hS1⟩) (fun _ h => h) (fun k hk => ⟨.inr hk, (hok k hk).2⟩)).1
  rw [hz] at h2
  exact h2
end Go.Proofs.Ythbcnakmnbilhaa.SepMark
