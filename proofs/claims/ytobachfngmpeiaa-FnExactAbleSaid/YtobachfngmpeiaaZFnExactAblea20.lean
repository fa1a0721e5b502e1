/- Part of the proof of FnExactAble. -/
import Derived.Test.YtobachfngmpeiaaZFnExactAblea18
import Derived.Test.YtobachfngmpeiaaZFnExactAbles
set_option maxRecDepth 100000
namespace Go.Proofs.Ytobachfngmpeiaa.PFnExactAble
open Go.RowKit Go.Proofs.YtobachfngmpeiaaW.PrintWords Go.Proofs.YtobachfngmpeiaaW.PrintLast Go.Proofs.YtobachfngmpeiaaW.PrintMore
attribute [local go_sem] max2_int min2_int max_two min_two max_three min_three max_four min_four   -- for this text's walks alone
set_option linter.unusedVariables false
set_option linter.unusedSimpArgs false
mutual
def impl_named.j0 : Nat → Int → Bool → Int → Int → Int → Int → Int → Int → Int → Int → Int → Int → Option (Int × Int × Int × Int × Int)
  | 0,_,_,_,_,_,_,_,_,_,_,_,_ => none
  | k + 1,x8,x17,x391000,x391001,x391002,x391003,x391004,x393000,x393001,x393002,x393003,x393004 => if x17 = true then (some (x393000,x391001,x391002,x391003,x393004)) else (if x8 = 5 then (impl_named.j1 k x8 (x8 == 5) x391000 x391001 x391002 x391003 x391004 x393000 x393001 x393002 x393003 x393004) else (impl_named.j1 k x8 (x8 == 12) x391000 x391001 x391002 x391003 x391004 x393000 x393001 x393002 x393003 x393004))
def impl_named.j1 : Nat → Int → Bool → Int → Int → Int → Int → Int → Int → Int → Int → Int → Int → Option (Int × Int × Int × Int × Int)
  | 0,_,_,_,_,_,_,_,_,_,_,_,_ => none
  | k + 1,x8,x30,x391000,x391001,x391002,x391003,x391004,x393000,x393001,x393002,x393003,x393004 => if x30 = true then (some (x393000,x393001,x391002,x393003,x391004)) else (if x8 = 6 then (impl_named.j2 k x8 (x8 == 6) x391000 x391001 x391002 x391003 x391004 x393000 x393001 x393002 x393003 x393004) else (impl_named.j2 k x8 (x8 == 8) x391000 x391001 x391002 x391003 x391004 x393000 x393001 x393002 x393003 x393004))
def impl_named.j2 : Nat → Int → Bool → Int → Int → Int → Int → Int → Int → Int → Int → Int → Int → Option (Int × Int × Int × Int × Int)
  | 0,_,_,_,_,_,_,_,_,_,_,_,_ => none
  | k + 1,x8,x39,x391000,x391001,x391002,x391003,x391004,x393000,x393001,x393002,x393003,x393004 => if x39 = true then (some (x393000,x391001,x393002,x391003,x391004)) else (if x8 = 7 then (some (x393000,x391001,x391002,x393003,x391004)) else (if x8 = 9 then (impl_named.j3 k x8 (x8 == 9) x391000 x391001 x391002 x391003 x391004 x393000 x393001 x393002 x393003 x393004) else (impl_named.j3 k x8 (x8 == 11) x391000 x391001 x391002 x391003 x391004 x393000 x393001 x393002 x393003 x393004)))
def impl_named.j3 : Nat → Int → Bool → Int → Int → Int → Int → Int → Int → Int → Int → Int → Int → Option (Int × Int × Int × Int × Int)
  | 0,_,_,_,_,_,_,_,_,_,_,_,_ => none
  | k + 1,x8,x62,x391000,x391001,x391002,x391003,x391004,x393000,x393001,x393002,x393003,x393004 => if x62 = true then (some (x393000,x393001,x393002,x393003,x391004)) else (if x8 = 10 then (some (x393000,x393001,x391002,x393003,x393004)) else (some (x393000,x393001,x393002,x393003,x393004)))
end
def impl_named.f (k : Nat) (a0_0 : Int) (a0_1 : Int) (a0_2 : Int) (a0_3 : Int) (a0_4 : Int) : Option (Int × Int × Int × Int × Int) := if a0_0 = 1 then (some (a0_0,a0_1,0,0,a0_4)) else (if a0_0 = 2 then (impl_named.j0 k a0_0 (a0_0 == 2) a0_0 a0_1 a0_2 a0_3 a0_4 a0_0 0 0 0 0) else (if a0_0 = 3 then (impl_named.j0 k a0_0 (a0_0 == 3) a0_0 a0_1 a0_2 a0_3 a0_4 a0_0 0 0 0 0) else (impl_named.j0 k a0_0 (a0_0 == 4) a0_0 a0_1 a0_2 a0_3 a0_4 a0_0 0 0 0 0)))
def impl_named.T4 : Bool × List (List Nat × List Nat) := (true,[([],[]),([0],[0]),([],[]),([2],[2]),([0,1],[]),([4,1,0,1],[1,4]),([0,1,2,3,4,5],[]),([6,3,5,0,1,2,3,4,5],[3,6])])
def impl_named.B4 : List Nat := [0,1,0,4,3,19,63,127]
theorem impl_named.tab4 : rtab .any (opsOf Try.f183 4) = impl_named.T4 := by kernel_rfl
theorem impl_named.bits4 : waitsOk impl_named.T4.2 impl_named.B4 = true := by kernel_rfl
def impl_named.T8 : Bool × List (List Nat × List Nat) := (true,[([],[]),([0],[0]),([],[]),([2],[2]),([],[]),([4],[4]),([0,1],[]),([6,1,0,1],[1,6]),([0,1,2,3,6,7],[]),([8,3,7,0,1,2,3,6,7],[3,8]),([0,1,2,3,4,5,6,7,8,9],[]),([10,5,9,0,1,2,3,4,5,6,7,8,9],[5,10])])
def impl_named.B8 : List Nat := [0,1,0,4,0,16,3,67,207,463,1023,2047]
theorem impl_named.tab8 : rtab .any (opsOf Try.f183 8) = impl_named.T8 := by kernel_rfl
theorem impl_named.bits8 : waitsOk impl_named.T8.2 impl_named.B8 = true := by kernel_rfl
def impl_named.T11 : Bool × List (List Nat × List Nat) := (true,[([],[]),([0],[0]),([],[]),([2],[2]),([0,1],[]),([4,1,0,1],[1,4]),([0,1,2,3,4,5],[]),([6,3,5,0,1,2,3,4,5],[3,6])])
def impl_named.B11 : List Nat := [0,1,0,4,3,19,63,127]
theorem impl_named.tab11 : rtab .any (opsOf Try.f183 11) = impl_named.T11 := by kernel_rfl
theorem impl_named.bits11 : waitsOk impl_named.T11.2 impl_named.B11 = true := by kernel_rfl
def impl_named.T14 : Bool × List (List Nat × List Nat) := (true,[([],[]),([0],[0]),([],[]),([2],[2]),([],[]),([4],[4]),([0,1],[]),([6,1,0,1],[1,6]),([0,1,2,3,6,7],[]),([8,3,7,0,1,2,3,6,7],[3,8]),([0,1,2,3,4,5,6,7,8,9],[]),([10,5,9,0,1,2,3,4,5,6,7,8,9],[5,10])])
def impl_named.B14 : List Nat := [0,1,0,4,0,16,3,67,207,463,1023,2047]
theorem impl_named.tab14 : rtab .any (opsOf Try.f183 14) = impl_named.T14 := by kernel_rfl
theorem impl_named.bits14 : waitsOk impl_named.T14.2 impl_named.B14 = true := by kernel_rfl
def impl_named.T16 : Bool × List (List Nat × List Nat) := (true,[([],[]),([0],[0]),([],[]),([2],[2]),([],[]),([4],[4]),([0,1],[]),([6,1,0,1],[1,6]),([0,1,2,3,6,7],[]),([8,3,7,0,1,2,3,6,7],[3,8]),([0,1,2,3,4,5,6,7,8,9],[]),([10,5,9,0,1,2,3,4,5,6,7,8,9],[5,10])])
def impl_named.B16 : List Nat := [0,1,0,4,0,16,3,67,207,463,1023,2047]
theorem impl_named.tab16 : rtab .any (opsOf Try.f183 16) = impl_named.T16 := by kernel_rfl
theorem impl_named.bits16 : waitsOk impl_named.T16.2 impl_named.B16 = true := by kernel_rfl
set_option maxHeartbeats 8000000 in
theorem impl_named.calls (k : Nat) (a0_0 : Int) (a0_1 : Int) (a0_2 : Int) (a0_3 : Int) (a0_4 : Int) (r1 : Int) (r2 : Int) (r3 : Int) (r4 : Int) (r5 : Int) (w : World) (h : impl_named.f k a0_0 a0_1 a0_2 a0_3 a0_4 = some (r1,r2,r3,r4,r5)) :
  Calls Try.prog 183 #[.agg #[.int .i64 a0_0,.int .i64 a0_1,.int .i64 a0_2,.int .i64 a0_3,.int .i64 a0_4]] w fun e w' => e = .returned (.agg #[.int .i64 r1,.int .i64 r2,.int .i64 r3,.int .i64 r4,.int .i64 r5]) ∧ Below w.heap.size w w' := by
 have hu192 := Try.underlying192
 have HB := aM_ (Below.refl w.heap.size w)
 have H : (if a0_0 = 1 then (some (a0_0,a0_1,0,0,a0_4)) else (if a0_0 = 2 then (impl_named.j0 k a0_0 (a0_0 == 2) a0_0 a0_1 a0_2 a0_3 a0_4 a0_0 0 0 0 0) else (if a0_0 = 3 then (impl_named.j0 k a0_0 (a0_0 == 3) a0_0 a0_1 a0_2 a0_3 a0_4 a0_0 0 0 0 0) else (impl_named.j0 k a0_0 (a0_0 == 4) a0_0 a0_1 a0_2 a0_3 a0_4 a0_0 0 0 0 0)))) = some (r1,r2,r3,r4,r5) := h
 clear h
 by_cases c2 : a0_0 = 1
 ·rw [if_pos c2] at H
  have c2b0 : (a0_0 == 1) = true := beq_iff_eq.mpr c2
  have c2b1 : (a0_0 != 1) = false := bne_eq_false_iff_eq.mpr c2
  clear c2
  simp only [Option.some.injEq,Prod.mk.injEq] at H
  obtain ⟨rfl,rfl,rfl,rfl,rfl⟩ := H
  go_enter Try.func183,Try.ntmps183
  try go_wp2_with (first | (refine bX_ 1 (cs := #[.int .i64 a0_0,.int .i64 a0_1,.int .i64 a0_2,.int .i64 a0_3,.int .i64 a0_4]) (t := 192) ?_;intro gb390 hg w3 hbox hb;have BK390 := aM_ (hbox);have GE390 := aM_ (sZ_ hg HB.out);replace HB := aM_ (sT_ HB.out hb);clear hb hbox hg) | (refine bX_ 2 (cs := #[.int .i64 0,.int .i64 0,.int .i64 0,.int .i64 0,.int .i64 0]) (t := 192) ?_;intro gb391 hg w4 hbox hb;have BK391 := aM_ (hbox);have GE391 := aM_ (sZ_ hg HB.out);have NB390_391 := aM_ (nL_ hg BK390.out);have NB391_390 := aM_ (nG_ hg BK390.out);replace BK390 := aM_ (nB_ BK390.out hb);replace HB := aM_ (sT_ HB.out hb);clear hb hbox hg;have hnb5 := nn_ NB390_391 NB391_390;have z_6 := bR5_ BK390.out) | (refine bX_ 3 (cs := #[.int .i64 0,.int .i64 0,.int .i64 0,.int .i64 0,.int .i64 0]) (t := 192) ?_;intro gb392 hg w7 hbox hb;have BK392 := aM_ (hbox);have GE392 := aM_ (sZ_ hg HB.out);have NB390_392 := aM_ (nL_ hg BK390.out);have NB392_390 := aM_ (nG_ hg BK390.out);have NB391_392 := aM_ (nL_ hg BK391.out);have NB392_391 := aM_ (nG_ hg BK391.out);replace BK390 := aM_ (nB_ BK390.out hb);replace BK391 := aM_ (nB_ BK391.out hb);replace HB := aM_ (sT_ HB.out hb);clear hb hbox hg;have hnb8 := nn_ NB392_390 NB390_392;have hnb9 := nn_ NB392_391 NB391_392;have z_10 := bR5_ BK392.out;have z_11 := bR5_ BK390.out))
  have n0 : Aside0 ((((((w7.setCell ⟨gb392,0,none⟩ (.int .i64 a0_0)).setCell ⟨gb392,1,none⟩ (.int .i64 0)).setCell ⟨gb392,2,none⟩ (.int .i64 0)).setCell ⟨gb392,3,none⟩ (.int .i64 0)).setCell ⟨gb392,4,none⟩ (.int .i64 0)).heap[gb390]? = some (.cells #[.int .i64 a0_0,.int .i64 a0_1,.int .i64 a0_2,.int .i64 a0_3,.int .i64 a0_4] 192 (0,0))) := ⟨rWf_ BK390.out⟩
  have n1 : Aside0 ((((((w7.setCell ⟨gb392,0,none⟩ (.int .i64 a0_0)).setCell ⟨gb392,1,none⟩ (.int .i64 0)).setCell ⟨gb392,2,none⟩ (.int .i64 0)).setCell ⟨gb392,3,none⟩ (.int .i64 0)).setCell ⟨gb392,4,none⟩ (.int .i64 0)).heap[gb391]? = some (.cells #[.int .i64 0,.int .i64 0,.int .i64 0,.int .i64 0,.int .i64 0] 192 (0,0))) := ⟨rWf_ BK391.out⟩
  have n2 : Aside0 ((((((w7.setCell ⟨gb392,0,none⟩ (.int .i64 a0_0)).setCell ⟨gb392,1,none⟩ (.int .i64 0)).setCell ⟨gb392,2,none⟩ (.int .i64 0)).setCell ⟨gb392,3,none⟩ (.int .i64 0)).setCell ⟨gb392,4,none⟩ (.int .i64 0)).heap[gb392]? = some (.cells #[.int .i64 a0_0,.int .i64 0,.int .i64 0,.int .i64 0,.int .i64 0] 192 (0,0))) := ⟨by (with_reducible repeat (first | refine bN_ ?_ _ | refine bD_ ?_ | refine bA_ ?_ _));refine blk_put (cs := #[.int .i64 a0_0,.int .i64 0,.int .i64 0,.int .i64 0,.int .i64 0]) ?_ 4 _ rfl;refine blk_put (cs := #[.int .i64 a0_0,.int .i64 0,.int .i64 0,.int .i64 0,.int .i64 0]) ?_ 3 _ rfl;refine blk_put (cs := #[.int .i64 a0_0,.int .i64 0,.int .i64 0,.int .i64 0,.int .i64 0]) ?_ 2 _ rfl;refine blk_put (cs := #[.int .i64 a0_0,.int .i64 0,.int .i64 0,.int .i64 0,.int .i64 0]) ?_ 1 _ rfl;refine blk_put (cs := #[.int .i64 0,.int .i64 0,.int .i64 0,.int .i64 0,.int .i64 0]) ?_ 0 _ rfl;(with_reducible repeat (first | refine bN_ ?_ _ | refine bD_ ?_ | refine bA_ ?_ _));exact BK392.out⟩
  have n3 : Aside0 (Below w.heap.size w (((((w7.setCell ⟨gb392,0,none⟩ (.int .i64 a0_0)).setCell ⟨gb392,1,none⟩ (.int .i64 0)).setCell ⟨gb392,2,none⟩ (.int .i64 0)).setCell ⟨gb392,3,none⟩ (.int .i64 0)).setCell ⟨gb392,4,none⟩ (.int .i64 0))) := ⟨gW_ HB.out⟩
  (try clear BK390)
  (try clear BK391)
  (try clear BK392)
  (try clear HB)
  generalize (((((w7.setCell ⟨gb392,0,none⟩ (.int .i64 a0_0)).setCell ⟨gb392,1,none⟩ (.int .i64 0)).setCell ⟨gb392,2,none⟩ (.int .i64 0)).setCell ⟨gb392,3,none⟩ (.int .i64 0)).setCell ⟨gb392,4,none⟩ (.int .i64 0)) = w12 at n0 n1 n2 n3 ⊢
  have BK390 := n0
  have BK391 := n1
  have BK392 := n2
  have HB := n3
  clear n0 n1 n2 n3
  replace BK390 := aM_ (blk_drew BK390.out)
  replace BK391 := aM_ (blk_drew BK391.out)
  replace BK392 := aM_ (blk_drew BK392.out)
  replace HB := aM_ (below_drew1 HB.out)
  refine sTa_ 8 (fun w' => K_ w' gb390 0 (.int .i64 a0_0) ∧ K_ w' gb390 1 (.int .i64 a0_1) ∧ K_ w' gb390 2 (.int .i64 a0_2) ∧ K_ w' gb390 3 (.int .i64 a0_3) ∧ K_ w' gb390 4 (.int .i64 a0_4)) [] (bC5_ BK390.out) (fun hHeld => ?_);refine with_tabW impl_named.tab4 impl_named.bits4 (fun HT_ HW_ => ?_)
  generalize w12.drew = w13 at BK390 BK391 BK392 HB hHeld ⊢
  refine jU_ 0 11 8 1 ?_
  refine jU_ 2 13 8 5 ?_
  refine jK5_ 1 12 8 7 ?_
  refine jU_ 4 15 8 23 ?_
  refine jK5_ 3 14 8 31 ?_
  refine oNn_ 5 (none) (mk_ 8 63) (fun K hK => ?_)
  have hs14 : w13.cell? ⟨gb392,1,none⟩ = some (.int .i64 0) := (blk_cell BK392.out 1).trans rfl
  have hfs14 := blk_frozen BK392.out 1
  have hns14_0 := NB390_392.out
  have hns14_1 := NB391_392.out
  have hms14_0 := NB392_390.out
  have hms14_1 := NB392_391.out
  refine skip_ (w1 := ?_) (by rfl) rfl ?_ ?_
  rotate_left
  ·go_simp
   rfl
  refine hK.out _ _ ⟨(cf_ NB390_392.out hHeld.1),(cf_ NB390_392.out hHeld.2.1),(cf_ NB390_392.out hHeld.2.2.1),(cf_ NB390_392.out hHeld.2.2.2.1),(cf_ NB390_392.out hHeld.2.2.2.2)⟩ (fun hHeld => ?_)
  clear hK K
  refine jU_ 6 16 8 127 ?_
  refine oNn_ 7 (none) (mk_ 8 255) (fun K hK => ?_)
  have hs15 : w13.cell? ⟨gb392,4,none⟩ = some (.int .i64 0) := (blk_cell BK392.out 4).trans rfl
  have hfs15 := blk_frozen BK392.out 4
  have hns15_0 := NB390_392.out
  have hns15_1 := NB391_392.out
  have hms15_0 := NB392_390.out
  have hms15_1 := NB392_391.out
  refine skip_ (w1 := ?_) (by rfl) rfl ?_ ?_
  rotate_left
  ·go_simp
   rfl
  refine hK.out _ _ ⟨(cf_ NB390_392.out hHeld.1),(cf_ NB390_392.out hHeld.2.1),(cf_ NB390_392.out hHeld.2.2.1),(cf_ NB390_392.out hHeld.2.2.2.1),(cf_ NB390_392.out hHeld.2.2.2.2)⟩ (fun hHeld => ?_)
  clear hK K
  refine done_ (done_of HT_.out (by kernel_rfl)) ?_
  have z_16 := bR5_ BK392.out
  have z_17 := bR5_ BK391.out
  try go_wp2
  refine bodyPost_ret (results_cell_row rfl _ _ gb391 192 #[.int .i64 a0_0,.int .i64 a0_1,.int .i64 0,.int .i64 0,.int .i64 a0_4] (0,0) _ rfl (by (with_reducible repeat (first | refine bN_ ?_ _ | refine bD_ ?_ | refine bA_ ?_ _));refine blk_put (cs := #[.int .i64 a0_0,.int .i64 a0_1,.int .i64 0,.int .i64 0,.int .i64 0]) ?_ 4 _ rfl;refine blk_put (cs := #[.int .i64 a0_0,.int .i64 a0_1,.int .i64 0,.int .i64 0,.int .i64 0]) ?_ 3 _ rfl;refine blk_put (cs := #[.int .i64 a0_0,.int .i64 a0_1,.int .i64 0,.int .i64 0,.int .i64 0]) ?_ 2 _ rfl;refine blk_put (cs := #[.int .i64 a0_0,.int .i64 0,.int .i64 0,.int .i64 0,.int .i64 0]) ?_ 1 _ rfl;refine blk_put (cs := #[.int .i64 0,.int .i64 0,.int .i64 0,.int .i64 0,.int .i64 0]) ?_ 0 _ rfl;exact rWf_ BK391.out) Try.underlying192 rfl (by kernel_rfl)) rfl ?_
  exact fI_ HB.out
 ·rw [if_neg c2] at H
  have c2b0 : (a0_0 == 1) = false := beq_eq_false_iff_ne.mpr c2
  have c2b1 : (a0_0 != 1) = true := bne_iff_ne.mpr c2
  have HC18 := aM_ H
  clear H
  go_enter Try.func183,Try.ntmps183
  go_upto_if 17 with (first | (refine bX_ 1 (cs := #[.int .i64 a0_0,.int .i64 a0_1,.int .i64 a0_2,.int .i64 a0_3,.int .i64 a0_4]) (t := 192) ?_;intro gb390 hg w19 hbox hb;have BK390 := aM_ (hbox);have GE390 := aM_ (sZ_ hg HB.out);replace HB := aM_ (sT_ HB.out hb);clear hb hbox hg) | (refine bX_ 2 (cs := #[.int .i64 0,.int .i64 0,.int .i64 0,.int .i64 0,.int .i64 0]) (t := 192) ?_;intro gb391 hg w20 hbox hb;have BK391 := aM_ (hbox);have GE391 := aM_ (sZ_ hg HB.out);have NB390_391 := aM_ (nL_ hg BK390.out);have NB391_390 := aM_ (nG_ hg BK390.out);replace BK390 := aM_ (nB_ BK390.out hb);replace HB := aM_ (sT_ HB.out hb);clear hb hbox hg;have hnb21 := nn_ NB390_391 NB391_390;have z_22 := bR5_ BK390.out) | (refine bX_ 3 (cs := #[.int .i64 0,.int .i64 0,.int .i64 0,.int .i64 0,.int .i64 0]) (t := 192) ?_;intro gb392 hg w23 hbox hb;have BK392 := aM_ (hbox);have GE392 := aM_ (sZ_ hg HB.out);have NB390_392 := aM_ (nL_ hg BK390.out);have NB392_390 := aM_ (nG_ hg BK390.out);have NB391_392 := aM_ (nL_ hg BK391.out);have NB392_391 := aM_ (nG_ hg BK391.out);replace BK390 := aM_ (nB_ BK390.out hb);replace BK391 := aM_ (nB_ BK391.out hb);replace HB := aM_ (sT_ HB.out hb);clear hb hbox hg;have hnb24 := nn_ NB392_390 NB390_392;have hnb25 := nn_ NB392_391 NB391_392;have z_26 := bR5_ BK392.out;have z_27 := bR5_ BK390.out))
  (try simp only [Act.put,List.setIfInBounds_toArray,List.set_cons_zero,List.set_cons_succ])
  go_cut [17] (fun v17 wc => ∃ (kq : Nat) (x17_17 : Bool),v17 = .bool x17_17 ∧ Aside0 (impl_named.j0 kq a0_0 x17_17 a0_0 a0_1 a0_2 a0_3 a0_4 a0_0 0 0 0 0 = some (r1,r2,r3,r4,r5)) ∧ Aside0 (kq ≤ k) ∧ Aside0 (wc.heap[gb390]? = some (.cells #[.int .i64 a0_0,.int .i64 a0_1,.int .i64 a0_2,.int .i64 a0_3,.int .i64 a0_4] 192 (0,0))) ∧ Aside0 (wc.heap[gb391]? = some (.cells #[.int .i64 0,.int .i64 0,.int .i64 0,.int .i64 0,.int .i64 0] 192 (0,0))) ∧ Aside0 (wc.heap[gb392]? = some (.cells #[.int .i64 a0_0,.int .i64 0,.int .i64 0,.int .i64 0,.int .i64 0] 192 (0,0))) ∧ Aside0 (Below w.heap.size w wc))
  case first =>
   have H := HC18.out
   clear HC18
   by_cases c28 : a0_0 = 2
   ·rw [if_pos c28] at H
    have c28b0 : (a0_0 == 2) = true := beq_iff_eq.mpr c28
    have c28b1 : (a0_0 != 2) = false := bne_eq_false_iff_eq.mpr c28
    clear c28
    (first | rw [c28b0] | (simp only [i64_w,i32_w];rw [c28b0]) | skip)
    have H' := aM_ H
    clear H
    go_wp2
    go_meet
    case rel => exact ⟨_,((a0_0 == 2)),(by first | rfl | (simp;done) | (simp [*];done)),H',⟨by first | omega | exact Nat.le_refl _⟩,⟨rWf_ BK390.out⟩,⟨rWf_ BK391.out⟩,⟨by (with_reducible repeat (first | refine bN_ ?_ _ | refine bD_ ?_ | refine bA_ ?_ _));refine blk_put (cs := #[.int .i64 a0_0,.int .i64 0,.int .i64 0,.int .i64 0,.int .i64 0]) ?_ 4 _ rfl;refine blk_put (cs := #[.int .i64 a0_0,.int .i64 0,.int .i64 0,.int .i64 0,.int .i64 0]) ?_ 3 _ rfl;refine blk_put (cs := #[.int .i64 a0_0,.int .i64 0,.int .i64 0,.int .i64 0,.int .i64 0]) ?_ 2 _ rfl;refine blk_put (cs := #[.int .i64 a0_0,.int .i64 0,.int .i64 0,.int .i64 0,.int .i64 0]) ?_ 1 _ rfl;refine blk_put (cs := #[.int .i64 0,.int .i64 0,.int .i64 0,.int .i64 0,.int .i64 0]) ?_ 0 _ rfl;(with_reducible repeat (first | refine bN_ ?_ _ | refine bD_ ?_ | refine bA_ ?_ _));exact BK392.out⟩,⟨gW_ HB.out⟩⟩
   ·rw [if_neg c28] at H
    have c28b0 : (a0_0 == 2) = false := beq_eq_false_iff_ne.mpr c28
    have c28b1 : (a0_0 != 2) = true := bne_iff_ne.mpr c28
    (first | rw [c28b0] | (simp only [i64_w,i32_w];rw [c28b0]) | skip)
    by_cases c29 : a0_0 = 3
    ·rw [if_pos c29] at H
     have c29b0 : (a0_0 == 3) = true := beq_iff_eq.mpr c29
     have c29b1 : (a0_0 != 3) = false := bne_eq_false_iff_eq.mpr c29
     clear c29
     have H' := aM_ H
     clear H
     go_wp2
     go_meet
     case rel => exact ⟨_,((a0_0 == 3)),(by first | rfl | (simp;done) | (simp [*];done)),H',⟨by first | omega | exact Nat.le_refl _⟩,⟨rWf_ BK390.out⟩,⟨rWf_ BK391.out⟩,⟨by (with_reducible repeat (first | refine bN_ ?_ _ | refine bD_ ?_ | refine bA_ ?_ _));refine blk_put (cs := #[.int .i64 a0_0,.int .i64 0,.int .i64 0,.int .i64 0,.int .i64 0]) ?_ 4 _ rfl;refine blk_put (cs := #[.int .i64 a0_0,.int .i64 0,.int .i64 0,.int .i64 0,.int .i64 0]) ?_ 3 _ rfl;refine blk_put (cs := #[.int .i64 a0_0,.int .i64 0,.int .i64 0,.int .i64 0,.int .i64 0]) ?_ 2 _ rfl;refine blk_put (cs := #[.int .i64 a0_0,.int .i64 0,.int .i64 0,.int .i64 0,.int .i64 0]) ?_ 1 _ rfl;refine blk_put (cs := #[.int .i64 0,.int .i64 0,.int .i64 0,.int .i64 0,.int .i64 0]) ?_ 0 _ rfl;(with_reducible repeat (first | refine bN_ ?_ _ | refine bD_ ?_ | refine bA_ ?_ _));exact BK392.out⟩,⟨gW_ HB.out⟩⟩
    ·rw [if_neg c29] at H
     have c29b0 : (a0_0 == 3) = false := beq_eq_false_iff_ne.mpr c29
     have c29b1 : (a0_0 != 3) = true := bne_iff_ne.mpr c29
     have H' := aM_ H
     clear H
     go_wp2
     go_meet
     case rel => exact ⟨_,((a0_0 == 4)),(by first | rfl | (simp;done) | (simp [*];done)),H',⟨by first | omega | exact Nat.le_refl _⟩,⟨rWf_ BK390.out⟩,⟨rWf_ BK391.out⟩,⟨by (with_reducible repeat (first | refine bN_ ?_ _ | refine bD_ ?_ | refine bA_ ?_ _));refine blk_put (cs := #[.int .i64 a0_0,.int .i64 0,.int .i64 0,.int .i64 0,.int .i64 0]) ?_ 4 _ rfl;refine blk_put (cs := #[.int .i64 a0_0,.int .i64 0,.int .i64 0,.int .i64 0,.int .i64 0]) ?_ 3 _ rfl;refine blk_put (cs := #[.int .i64 a0_0,.int .i64 0,.int .i64 0,.int .i64 0,.int .i64 0]) ?_ 2 _ rfl;refine blk_put (cs := #[.int .i64 a0_0,.int .i64 0,.int .i64 0,.int .i64 0,.int .i64 0]) ?_ 1 _ rfl;refine blk_put (cs := #[.int .i64 0,.int .i64 0,.int .i64 0,.int .i64 0,.int .i64 0]) ?_ 0 _ rfl;(with_reducible repeat (first | refine bN_ ?_ _ | refine bD_ ?_ | refine bA_ ?_ _));exact BK392.out⟩,⟨gW_ HB.out⟩⟩
  case rest =>
   clear HC18
   (try clear c1);(try clear c2);(try clear c2b0);(try clear c2b1);(try clear p2);(try clear c5);(try clear c8);(try clear c9);(try clear c18);(try clear c21);(try clear c24);(try clear c25);(try clear c28);(try clear c28b0);(try clear c28b1);(try clear c29);(try clear c29b0);(try clear c29b1);(try clear z_10);(try clear z_11);(try clear z_16);(try clear z_17);(try clear z_22);(try clear z_26);(try clear z_27);(try clear z_6)
   obtain ⟨kq,x17_17,rfl,HA,HJ17,BK390,BK391,BK392,HB⟩ := hcut
   cases kq with
   | zero => exact absurd HA.out (by simp [impl_named.j0])
   | succ kj17 =>
    have H := HA.out
    clear HA
    simp only [impl_named.j0] at H
    by_cases c30 : x17_17 = true
    ·subst c30
     have H1 : (some (a0_0,a0_1,a0_2,a0_3,0)) = some (r1,r2,r3,r4,r5) := by rw [if_pos rfl] at H;exact H
     clear H
     have H := H1
     clear H1
     simp only [Option.some.injEq,Prod.mk.injEq] at H
     obtain ⟨rfl,rfl,rfl,rfl,rfl⟩ := H
     try go_wp2
     replace BK390 := aM_ (blk_drew BK390.out)
     replace BK391 := aM_ (blk_drew BK391.out)
     replace BK392 := aM_ (blk_drew BK392.out)
     replace HB := aM_ (below_drew1 HB.out)
     refine sTa_ 12 (fun w' => K_ w' gb390 0 (.int .i64 a0_0) ∧ K_ w' gb390 1 (.int .i64 a0_1) ∧ K_ w' gb390 2 (.int .i64 a0_2) ∧ K_ w' gb390 3 (.int .i64 a0_3) ∧ K_ w' gb390 4 (.int .i64 a0_4)) [] (bC5_ BK390.out) (fun hHeld => ?_);refine with_tabW impl_named.tab8 impl_named.bits8 (fun HT_ HW_ => ?_)
     generalize wc.drew = w31 at BK390 BK391 BK392 HB hHeld ⊢
     refine jU_ 0 21 12 1 ?_
     refine jU_ 2 23 12 5 ?_
     refine jU_ 4 25 12 21 ?_
     refine jK5_ 1 22 12 23 ?_
     refine jU_ 6 27 12 87 ?_
     refine jK5_ 3 24 12 95 ?_
     refine jK5_ 5 26 12 127 ?_
     refine oNn_ 7 (none) (mk_ 12 255) (fun K hK => ?_)
     have hs32 : w31.cell? ⟨gb392,1,none⟩ = some (.int .i64 0) := (blk_cell BK392.out 1).trans rfl
     have hfs32 := blk_frozen BK392.out 1
     have hns32_0 := NB390_392.out
     have hns32_1 := NB391_392.out
     have hms32_0 := NB392_390.out
     have hms32_1 := NB392_391.out
     refine skip_ (w1 := ?_) (by rfl) rfl ?_ ?_
     rotate_left
     ·go_simp
      rfl
     refine hK.out _ _ ⟨(cf_ NB390_392.out hHeld.1),(cf_ NB390_392.out hHeld.2.1),(cf_ NB390_392.out hHeld.2.2.1),(cf_ NB390_392.out hHeld.2.2.2.1),(cf_ NB390_392.out hHeld.2.2.2.2)⟩ (fun hHeld => ?_)
     clear hK K
     refine jU_ 8 28 12 511 ?_
     refine oNn_ 9 (none) (mk_ 12 1023) (fun K hK => ?_)
     have hs33 : w31.cell? ⟨gb392,2,none⟩ = some (.int .i64 0) := (blk_cell BK392.out 2).trans rfl
     have hfs33 := blk_frozen BK392.out 2
     have hns33_0 := NB390_392.out
     have hns33_1 := NB391_392.out
     have hms33_0 := NB392_390.out
     have hms33_1 := NB392_391.out
     refine skip_ (w1 := ?_) (by rfl) rfl ?_ ?_
     rotate_left
     ·go_simp
      rfl
     refine hK.out _ _ ⟨(cf_ NB390_392.out hHeld.1),(cf_ NB390_392.out hHeld.2.1),(cf_ NB390_392.out hHeld.2.2.1),(cf_ NB390_392.out hHeld.2.2.2.1),(cf_ NB390_392.out hHeld.2.2.2.2)⟩ (fun hHeld => ?_)
     clear hK K
     refine jU_ 10 29 12 2047 ?_
     refine oNn_ 11 (none) (mk_ 12 4095) (fun K hK => ?_)
     have hs34 : w31.cell? ⟨gb392,3,none⟩ = some (.int .i64 0) := (blk_cell BK392.out 3).trans rfl
     have hfs34 := blk_frozen BK392.out 3
     have hns34_0 := NB390_392.out
     have hns34_1 := NB391_392.out
     have hms34_0 := NB392_390.out
     have hms34_1 := NB392_391.out
     refine skip_ (w1 := ?_) (by rfl) rfl ?_ ?_
     rotate_left
     ·go_simp
      rfl
     refine hK.out _ _ ⟨(cf_ NB390_392.out hHeld.1),(cf_ NB390_392.out hHeld.2.1),(cf_ NB390_392.out hHeld.2.2.1),(cf_ NB390_392.out hHeld.2.2.2.1),(cf_ NB390_392.out hHeld.2.2.2.2)⟩ (fun hHeld => ?_)
     clear hK K
     refine done_ (done_of HT_.out (by kernel_rfl)) ?_
     have hnb35 := NB392_390.out
     have hnc35 := NB390_392.out
     have hnb36 := NB392_391.out
     have hnc36 := NB391_392.out
     have z_37 := bR5_ BK392.out
     have hnb38 := NB391_390.out
     have hnc38 := NB390_391.out
     have z_39 := bR5_ BK391.out
     try go_wp2
     refine bodyPost_ret (results_cell_row rfl _ _ gb391 192 #[.int .i64 a0_0,.int .i64 a0_1,.int .i64 a0_2,.int .i64 a0_3,.int .i64 0] (0,0) _ rfl (by (with_reducible repeat (first | refine bN_ ?_ _ | refine bD_ ?_ | refine bA_ ?_ _));refine blk_put (cs := #[.int .i64 a0_0,.int .i64 a0_1,.int .i64 a0_2,.int .i64 a0_3,.int .i64 0]) ?_ 4 _ rfl;refine blk_put (cs := #[.int .i64 a0_0,.int .i64 a0_1,.int .i64 a0_2,.int .i64 0,.int .i64 0]) ?_ 3 _ rfl;refine blk_put (cs := #[.int .i64 a0_0,.int .i64 a0_1,.int .i64 0,.int .i64 0,.int .i64 0]) ?_ 2 _ rfl;refine blk_put (cs := #[.int .i64 a0_0,.int .i64 0,.int .i64 0,.int .i64 0,.int .i64 0]) ?_ 1 _ rfl;refine blk_put (cs := #[.int .i64 0,.int .i64 0,.int .i64 0,.int .i64 0,.int .i64 0]) ?_ 0 _ rfl;exact rWf_ BK391.out) Try.underlying192 rfl (by kernel_rfl)) rfl ?_
     exact fI_ HB.out
    ·replace c30 := Bool.eq_false_iff.mpr c30
     subst c30
     have H1 : (if a0_0 = 5 then (impl_named.j1 kj17 a0_0 (a0_0 == 5) a0_0 a0_1 a0_2 a0_3 a0_4 a0_0 0 0 0 0) else (impl_named.j1 kj17 a0_0 (a0_0 == 12) a0_0 a0_1 a0_2 a0_3 a0_4 a0_0 0 0 0 0)) = some (r1,r2,r3,r4,r5) := by rw [if_neg (show ¬ (false = true) by decide)] at H;exact H
     clear H
     have H := H1
     clear H1
     have HC40 := aM_ H
     clear H
     go_upto_if 30 with (fail)
     go_cut [30] (fun v30 wc => ∃ (kq : Nat) (x30_39 : Bool),v30 = .bool x30_39 ∧ Aside0 (impl_named.j1 kq a0_0 x30_39 a0_0 a0_1 a0_2 a0_3 a0_4 a0_0 0 0 0 0 = some (r1,r2,r3,r4,r5)) ∧ Aside0 (kq ≤ kj17) ∧ Aside0 (wc.heap[gb390]? = some (.cells #[.int .i64 a0_0,.int .i64 a0_1,.int .i64 a0_2,.int .i64 a0_3,.int .i64 a0_4] 192 (0,0))) ∧ Aside0 (wc.heap[gb391]? = some (.cells #[.int .i64 0,.int .i64 0,.int .i64 0,.int .i64 0,.int .i64 0] 192 (0,0))) ∧ Aside0 (wc.heap[gb392]? = some (.cells #[.int .i64 a0_0,.int .i64 0,.int .i64 0,.int .i64 0,.int .i64 0] 192 (0,0))) ∧ Aside0 (Below w.heap.size w wc))
     case first =>
      have H := HC40.out
      clear HC40
      by_cases c41 : a0_0 = 5
      ·rw [if_pos c41] at H
       have c41b0 : (a0_0 == 5) = true := beq_iff_eq.mpr c41
       have c41b1 : (a0_0 != 5) = false := bne_eq_false_iff_eq.mpr c41
       clear c41
       (first | rw [c41b0] | (simp only [i64_w,i32_w];rw [c41b0]) | skip)
       have H' := aM_ H
       clear H
       go_wp2
       go_meet
       case rel => exact ⟨_,((a0_0 == 5)),(by first | rfl | (simp;done) | (simp [*];done)),H',⟨by have := HJ17.out;first | omega | exact Nat.le_refl _⟩,⟨rW_ BK390.out⟩,⟨rW_ BK391.out⟩,⟨rW_ BK392.out⟩,⟨gW_ HB.out⟩⟩
      ·rw [if_neg c41] at H
       have c41b0 : (a0_0 == 5) = false := beq_eq_false_iff_ne.mpr c41
       have c41b1 : (a0_0 != 5) = true := bne_iff_ne.mpr c41
       (first | rw [c41b0] | (simp only [i64_w,i32_w];rw [c41b0]) | skip)
       have H' := aM_ H
       clear H
       go_wp2
       go_meet
       case rel => exact ⟨_,((a0_0 == 12)),(by first | rfl | (simp;done) | (simp [*];done)),H',⟨by have := HJ17.out;first | omega | exact Nat.le_refl _⟩,⟨rW_ BK390.out⟩,⟨rW_ BK391.out⟩,⟨rW_ BK392.out⟩,⟨gW_ HB.out⟩⟩
     case rest =>
      clear HC40
      (try clear c1);(try clear c2);(try clear c2b0);(try clear c2b1);(try clear p2);(try clear c3);(try clear c4);(try clear c5);(try clear c8);(try clear c9);(try clear c18);(try clear c21);(try clear c24);(try clear c25);(try clear c28);(try clear c28b0);(try clear c28b1);(try clear c29);(try clear c29b0);(try clear c29b1);(try clear c30);(try clear c35);(try clear c36);(try clear c38);(try clear c41);(try clear c41b0);(try clear c41b1);(try clear z_10);(try clear z_11);(try clear z_16);(try clear z_17);(try clear z_22);(try clear z_26);(try clear z_27);(try clear z_37);(try clear z_39);(try clear z_6);(try clear p2)
      obtain ⟨kq,x30_39,rfl,HA,HJ39,BK390,BK391,BK392,HB⟩ := hcut
      cases kq with
      | zero => exact absurd HA.out (by simp [impl_named.j1])
      | succ kj39 =>
       have H := HA.out
       clear HA
       simp only [impl_named.j1] at H
       by_cases c42 : x30_39 = true
       ·subst c42
        have H1 : (some (a0_0,0,a0_2,0,a0_4)) = some (r1,r2,r3,r4,r5) := by rw [if_pos rfl] at H;exact H
        clear H
        have H := H1
        clear H1
        simp only [Option.some.injEq,Prod.mk.injEq] at H
        obtain ⟨rfl,rfl,rfl,rfl,rfl⟩ := H
        try go_wp2
        replace BK390 := aM_ (blk_drew BK390.out)
        replace BK391 := aM_ (blk_drew BK391.out)
        replace BK392 := aM_ (blk_drew BK392.out)
        replace HB := aM_ (below_drew1 HB.out)
        refine sTa_ 8 (fun w' => K_ w' gb390 0 (.int .i64 a0_0) ∧ K_ w' gb390 1 (.int .i64 a0_1) ∧ K_ w' gb390 2 (.int .i64 a0_2) ∧ K_ w' gb390 3 (.int .i64 a0_3) ∧ K_ w' gb390 4 (.int .i64 a0_4)) [] (bC5_ BK390.out) (fun hHeld => ?_);refine with_tabW impl_named.tab11 impl_named.bits11 (fun HT_ HW_ => ?_)
        generalize wc.drew = w43 at BK390 BK391 BK392 HB hHeld ⊢
        refine jU_ 0 33 8 1 ?_
        refine jU_ 2 35 8 5 ?_
        refine jK5_ 1 34 8 7 ?_
        refine jU_ 4 37 8 23 ?_
        refine jK5_ 3 36 8 31 ?_
        refine oNn_ 5 (none) (mk_ 8 63) (fun K hK => ?_)
        have hs44 : w43.cell? ⟨gb392,2,none⟩ = some (.int .i64 0) := (blk_cell BK392.out 2).trans rfl
        have hfs44 := blk_frozen BK392.out 2
        have hns44_0 := NB390_392.out
        have hns44_1 := NB391_392.out
        have hms44_0 := NB392_390.out
        have hms44_1 := NB392_391.out
        refine skip_ (w1 := ?_) (by rfl) rfl ?_ ?_
        rotate_left
        ·go_simp
         rfl
        refine hK.out _ _ ⟨(cf_ NB390_392.out hHeld.1),(cf_ NB390_392.out hHeld.2.1),(cf_ NB390_392.out hHeld.2.2.1),(cf_ NB390_392.out hHeld.2.2.2.1),(cf_ NB390_392.out hHeld.2.2.2.2)⟩ (fun hHeld => ?_)
        clear hK K
        refine jU_ 6 38 8 127 ?_
        refine oNn_ 7 (none) (mk_ 8 255) (fun K hK => ?_)
        have hs45 : w43.cell? ⟨gb392,4,none⟩ = some (.int .i64 0) := (blk_cell BK392.out 4).trans rfl
        have hfs45 := blk_frozen BK392.out 4
        have hns45_0 := NB390_392.out
        have hns45_1 := NB391_392.out
        have hms45_0 := NB392_390.out
        have hms45_1 := NB392_391.out
        refine skip_ (w1 := ?_) (by rfl) rfl ?_ ?_
        rotate_left
        ·go_simp
         rfl
        refine hK.out _ _ ⟨(cf_ NB390_392.out hHeld.1),(cf_ NB390_392.out hHeld.2.1),(cf_ NB390_392.out hHeld.2.2.1),(cf_ NB390_392.out hHeld.2.2.2.1),(cf_ NB390_392.out hHeld.2.2.2.2)⟩ (fun hHeld => ?_)
        clear hK K
        refine done_ (done_of HT_.out (by kernel_rfl)) ?_
        have hnb46 := NB392_390.out
        have hnc46 := NB390_392.out
        have hnb47 := NB392_391.out
        have hnc47 := NB391_392.out
        have z_48 := bR5_ BK392.out
        have hnb49 := NB391_390.out
        have hnc49 := NB390_391.out
        have z_50 := bR5_ BK391.out
        try go_wp2
        refine bodyPost_ret (results_cell_row rfl _ _ gb391 192 #[.int .i64 a0_0,.int .i64 0,.int .i64 a0_2,.int .i64 0,.int .i64 a0_4] (0,0) _ rfl (by (with_reducible repeat (first | refine bN_ ?_ _ | refine bD_ ?_ | refine bA_ ?_ _));refine blk_put (cs := #[.int .i64 a0_0,.int .i64 0,.int .i64 a0_2,.int .i64 0,.int .i64 0]) ?_ 4 _ rfl;refine blk_put (cs := #[.int .i64 a0_0,.int .i64 0,.int .i64 a0_2,.int .i64 0,.int .i64 0]) ?_ 3 _ rfl;refine blk_put (cs := #[.int .i64 a0_0,.int .i64 0,.int .i64 0,.int .i64 0,.int .i64 0]) ?_ 2 _ rfl;refine blk_put (cs := #[.int .i64 a0_0,.int .i64 0,.int .i64 0,.int .i64 0,.int .i64 0]) ?_ 1 _ rfl;refine blk_put (cs := #[.int .i64 0,.int .i64 0,.int .i64 0,.int .i64 0,.int .i64 0]) ?_ 0 _ rfl;exact rWf_ BK391.out) Try.underlying192 rfl (by kernel_rfl)) rfl ?_
        exact fI_ HB.out
       ·replace c42 := Bool.eq_false_iff.mpr c42
        subst c42
        have H1 : (if a0_0 = 6 then (impl_named.j2 kj39 a0_0 (a0_0 == 6) a0_0 a0_1 a0_2 a0_3 a0_4 a0_0 0 0 0 0) else (impl_named.j2 kj39 a0_0 (a0_0 == 8) a0_0 a0_1 a0_2 a0_3 a0_4 a0_0 0 0 0 0)) = some (r1,r2,r3,r4,r5) := by rw [if_neg (show ¬ (false = true) by decide)] at H;exact H
        clear H
        have H := H1
        clear H1
        have HC51 := aM_ H
        clear H
        go_upto_if 39 with (fail)
        go_cut [39] (fun v39 wc => ∃ (kq : Nat) (x39_50 : Bool),v39 = .bool x39_50 ∧ Aside0 (impl_named.j2 kq a0_0 x39_50 a0_0 a0_1 a0_2 a0_3 a0_4 a0_0 0 0 0 0 = some (r1,r2,r3,r4,r5)) ∧ Aside0 (kq ≤ kj39) ∧ Aside0 (wc.heap[gb390]? = some (.cells #[.int .i64 a0_0,.int .i64 a0_1,.int .i64 a0_2,.int .i64 a0_3,.int .i64 a0_4] 192 (0,0))) ∧ Aside0 (wc.heap[gb391]? = some (.cells #[.int .i64 0,.int .i64 0,.int .i64 0,.int .i64 0,.int .i64 0] 192 (0,0))) ∧ Aside0 (wc.heap[gb392]? = some (.cells #[.int .i64 a0_0,.int .i64 0,.int .i64 0,.int .i64 0,.int .i64 0] 192 (0,0))) ∧ Aside0 (Below w.heap.size w wc))
        case first =>
         have H := HC51.out
         clear HC51
         by_cases c52 : a0_0 = 6
         ·rw [if_pos c52] at H
          have c52b0 : (a0_0 == 6) = true := beq_iff_eq.mpr c52
          have c52b1 : (a0_0 != 6) = false := bne_eq_false_iff_eq.mpr c52
          clear c52
          (first | rw [c52b0] | (simp only [i64_w,i32_w];rw [c52b0]) | skip)
          have H' := aM_ H
          clear H
          go_wp2
          go_meet
          case rel => exact ⟨_,((a0_0 == 6)),(by first | rfl | (simp;done) | (simp [*];done)),H',⟨by have := HJ17.out;have := HJ39.out;first | omega | exact Nat.le_refl _⟩,⟨rW_ BK390.out⟩,⟨rW_ BK391.out⟩,⟨rW_ BK392.out⟩,⟨gW_ HB.out⟩⟩
         ·rw [if_neg c52] at H
          have c52b0 : (a0_0 == 6) = false := beq_eq_false_iff_ne.mpr c52
          have c52b1 : (a0_0 != 6) = true := bne_iff_ne.mpr c52
          (first | rw [c52b0] | (simp only [i64_w,i32_w];rw [c52b0]) | skip)
          have H' := aM_ H
          clear H
          go_wp2
          go_meet
          case rel => exact ⟨_,((a0_0 == 8)),(by first | rfl | (simp;done) | (simp [*];done)),H',⟨by have := HJ17.out;have := HJ39.out;first | omega | exact Nat.le_refl _⟩,⟨rW_ BK390.out⟩,⟨rW_ BK391.out⟩,⟨rW_ BK392.out⟩,⟨gW_ HB.out⟩⟩
        case rest =>
         clear HC51
         (try clear c1);(try clear c2);(try clear c2b0);(try clear c2b1);(try clear p2);(try clear c3);(try clear c4);(try clear c5);(try clear c8);(try clear c9);(try clear c18);(try clear c21);(try clear c24);(try clear c25);(try clear c28);(try clear c28b0);(try clear c28b1);(try clear c29);(try clear c29b0);(try clear c29b1);(try clear c30);(try clear c35);(try clear c36);(try clear c38);(try clear c41);(try clear c41b0);(try clear c41b1);(try clear c42);(try clear c46);(try clear c47);(try clear c49);(try clear c52);(try clear c52b0);(try clear c52b1);(try clear z_10);(try clear z_11);(try clear z_16);(try clear z_17);(try clear z_22);(try clear z_26);(try clear z_27);(try clear z_37);(try clear z_39);(try clear z_48);(try clear z_50);(try clear z_6);(try clear p2)
         obtain ⟨kq,x39_50,rfl,HA,HJ50,BK390,BK391,BK392,HB⟩ := hcut
         cases kq with
         | zero => exact absurd HA.out (by simp [impl_named.j2])
         | succ kj50 =>
          have H := HA.out
          clear HA
          simp only [impl_named.j2] at H
          by_cases c53 : x39_50 = true
          ·subst c53
           have H1 : (some (a0_0,a0_1,0,a0_3,a0_4)) = some (r1,r2,r3,r4,r5) := by rw [if_pos rfl] at H;exact H
           clear H
           have H := H1
           clear H1
           simp only [Option.some.injEq,Prod.mk.injEq] at H
           obtain ⟨rfl,rfl,rfl,rfl,rfl⟩ := H
           try go_wp2
           replace BK390 := aM_ (blk_drew BK390.out)
           replace BK391 := aM_ (blk_drew BK391.out)
           replace BK392 := aM_ (blk_drew BK392.out)
           replace HB := aM_ (below_drew1 HB.out)
           refine sTa_ 12 (fun w' => K_ w' gb390 0 (.int .i64 a0_0) ∧ K_ w' gb390 1 (.int .i64 a0_1) ∧ K_ w' gb390 2 (.int .i64 a0_2) ∧ K_ w' gb390 3 (.int .i64 a0_3) ∧ K_ w' gb390 4 (.int .i64 a0_4)) [] (bC5_ BK390.out) (fun hHeld => ?_);refine with_tabW impl_named.tab14 impl_named.bits14 (fun HT_ HW_ => ?_)
           generalize wc.drew = w54 at BK390 BK391 BK392 HB hHeld ⊢
           refine jU_ 0 42 12 1 ?_
           refine jU_ 2 44 12 5 ?_
           refine jU_ 4 46 12 21 ?_
           refine jK5_ 1 43 12 23 ?_
           refine jU_ 6 48 12 87 ?_
           refine jK5_ 3 45 12 95 ?_
           refine jK5_ 5 47 12 127 ?_
           refine oNn_ 7 (none) (mk_ 12 255) (fun K hK => ?_)
           have hs55 : w54.cell? ⟨gb392,1,none⟩ = some (.int .i64 0) := (blk_cell BK392.out 1).trans rfl
           have hfs55 := blk_frozen BK392.out 1
           have hns55_0 := NB390_392.out
           have hns55_1 := NB391_392.out
           have hms55_0 := NB392_390.out
           have hms55_1 := NB392_391.out
           refine skip_ (w1 := ?_) (by rfl) rfl ?_ ?_
           rotate_left
           ·go_simp
            rfl
           refine hK.out _ _ ⟨(cf_ NB390_392.out hHeld.1),(cf_ NB390_392.out hHeld.2.1),(cf_ NB390_392.out hHeld.2.2.1),(cf_ NB390_392.out hHeld.2.2.2.1),(cf_ NB390_392.out hHeld.2.2.2.2)⟩ (fun hHeld => ?_)
           clear hK K
           refine jU_ 8 49 12 511 ?_
           refine oNn_ 9 (none) (mk_ 12 1023) (fun K hK => ?_)
           have hs56 : w54.cell? ⟨gb392,3,none⟩ = some (.int .i64 0) := (blk_cell BK392.out 3).trans rfl
           have hfs56 := blk_frozen BK392.out 3
           have hns56_0 := NB390_392.out
           have hns56_1 := NB391_392.out
           have hms56_0 := NB392_390.out
           have hms56_1 := NB392_391.out
           refine skip_ (w1 := ?_) (by rfl) rfl ?_ ?_
           rotate_left
           ·go_simp
            rfl
           refine hK.out _ _ ⟨(cf_ NB390_392.out hHeld.1),(cf_ NB390_392.out hHeld.2.1),(cf_ NB390_392.out hHeld.2.2.1),(cf_ NB390_392.out hHeld.2.2.2.1),(cf_ NB390_392.out hHeld.2.2.2.2)⟩ (fun hHeld => ?_)
           clear hK K
           refine jU_ 10 50 12 2047 ?_
           refine oNn_ 11 (none) (mk_ 12 4095) (fun K hK => ?_)
           have hs57 : w54.cell? ⟨gb392,4,none⟩ = some (.int .i64 0) := (blk_cell BK392.out 4).trans rfl
           have hfs57 := blk_frozen BK392.out 4
           have hns57_0 := NB390_392.out
           have hns57_1 := NB391_392.out
           have hms57_0 := NB392_390.out
           have hms57_1 := NB392_391.out
           refine skip_ (w1 := ?_) (by rfl) rfl ?_ ?_
           rotate_left
           ·go_simp
            rfl
           refine hK.out _ _ ⟨(cf_ NB390_392.out hHeld.1),(cf_ NB390_392.out hHeld.2.1),(cf_ NB390_392.out hHeld.2.2.1),(cf_ NB390_392.out hHeld.2.2.2.1),(cf_ NB390_392.out hHeld.2.2.2.2)⟩ (fun hHeld => ?_)
           clear hK K
           refine done_ (done_of HT_.out (by kernel_rfl)) ?_
           have hnb58 := NB392_390.out
           have hnc58 := NB390_392.out
           have hnb59 := NB392_391.out
           have hnc59 := NB391_392.out
           have z_60 := bR5_ BK392.out
           have hnb61 := NB391_390.out
           have hnc61 := NB390_391.out
           have z_62 := bR5_ BK391.out
           try go_wp2
           refine bodyPost_ret (results_cell_row rfl _ _ gb391 192 #[.int .i64 a0_0,.int .i64 a0_1,.int .i64 0,.int .i64 a0_3,.int .i64 a0_4] (0,0) _ rfl (by (with_reducible repeat (first | refine bN_ ?_ _ | refine bD_ ?_ | refine bA_ ?_ _));refine blk_put (cs := #[.int .i64 a0_0,.int .i64 a0_1,.int .i64 0,.int .i64 a0_3,.int .i64 0]) ?_ 4 _ rfl;refine blk_put (cs := #[.int .i64 a0_0,.int .i64 a0_1,.int .i64 0,.int .i64 0,.int .i64 0]) ?_ 3 _ rfl;refine blk_put (cs := #[.int .i64 a0_0,.int .i64 a0_1,.int .i64 0,.int .i64 0,.int .i64 0]) ?_ 2 _ rfl;refine blk_put (cs := #[.int .i64 a0_0,.int .i64 0,.int .i64 0,.int .i64 0,.int .i64 0]) ?_ 1 _ rfl;refine blk_put (cs := #[.int .i64 0,.int .i64 0,.int .i64 0,.int .i64 0,.int .i64 0]) ?_ 0 _ rfl;exact rWf_ BK391.out) Try.underlying192 rfl (by kernel_rfl)) rfl ?_
           exact fI_ HB.out
          ·replace c53 := Bool.eq_false_iff.mpr c53
           subst c53
           have H1 : (if a0_0 = 7 then (some (a0_0,a0_1,a0_2,0,a0_4)) else (if a0_0 = 9 then (impl_named.j3 kj50 a0_0 (a0_0 == 9) a0_0 a0_1 a0_2 a0_3 a0_4 a0_0 0 0 0 0) else (impl_named.j3 kj50 a0_0 (a0_0 == 11) a0_0 a0_1 a0_2 a0_3 a0_4 a0_0 0 0 0 0))) = some (r1,r2,r3,r4,r5) := by rw [if_neg (show ¬ (false = true) by decide)] at H;exact H
           clear H
           have H := H1
           clear H1
           by_cases c63 : a0_0 = 7
           ·rw [if_pos c63] at H
            have c63b0 : (a0_0 == 7) = true := beq_iff_eq.mpr c63
            have c63b1 : (a0_0 != 7) = false := bne_eq_false_iff_eq.mpr c63
            clear c63
            simp only [Option.some.injEq,Prod.mk.injEq] at H
            obtain ⟨rfl,rfl,rfl,rfl,rfl⟩ := H
            try go_wp2
            replace BK390 := aM_ (blk_drew BK390.out)
            replace BK391 := aM_ (blk_drew BK391.out)
            replace BK392 := aM_ (blk_drew BK392.out)
            replace HB := aM_ (below_drew1 HB.out)
            refine sTa_ 12 (fun w' => K_ w' gb390 0 (.int .i64 a0_0) ∧ K_ w' gb390 1 (.int .i64 a0_1) ∧ K_ w' gb390 2 (.int .i64 a0_2) ∧ K_ w' gb390 3 (.int .i64 a0_3) ∧ K_ w' gb390 4 (.int .i64 a0_4)) [] (bC5_ BK390.out) (fun hHeld => ?_);refine with_tabW impl_named.tab16 impl_named.bits16 (fun HT_ HW_ => ?_)
            generalize wc.drew = w64 at BK390 BK391 BK392 HB hHeld ⊢
            refine jU_ 0 53 12 1 ?_
            refine jU_ 2 55 12 5 ?_
            refine jU_ 4 57 12 21 ?_
            refine jK5_ 1 54 12 23 ?_
            refine jU_ 6 59 12 87 ?_
            refine jK5_ 3 56 12 95 ?_
            refine jK5_ 5 58 12 127 ?_
            refine oNn_ 7 (none) (mk_ 12 255) (fun K hK => ?_)
            have hs65 : w64.cell? ⟨gb392,1,none⟩ = some (.int .i64 0) := (blk_cell BK392.out 1).trans rfl
            have hfs65 := blk_frozen BK392.out 1
            have hns65_0 := NB390_392.out
            have hns65_1 := NB391_392.out
            have hms65_0 := NB392_390.out
            have hms65_1 := NB392_391.out
            refine skip_ (w1 := ?_) (by rfl) rfl ?_ ?_
            rotate_left
            ·go_simp
             rfl
            refine hK.out _ _ ⟨(cf_ NB390_392.out hHeld.1),(cf_ NB390_392.out hHeld.2.1),(cf_ NB390_392.out hHeld.2.2.1),(cf_ NB390_392.out hHeld.2.2.2.1),(cf_ NB390_392.out hHeld.2.2.2.2)⟩ (fun hHeld => ?_)
            clear hK K
            refine jU_ 8 60 12 511 ?_
            refine oNn_ 9 (none) (mk_ 12 1023) (fun K hK => ?_)
            have hs66 : w64.cell? ⟨gb392,2,none⟩ = some (.int .i64 0) := (blk_cell BK392.out 2).trans rfl
            have hfs66 := blk_frozen BK392.out 2
            have hns66_0 := NB390_392.out
            have hns66_1 := NB391_392.out
            have hms66_0 := NB392_390.out
            have hms66_1 := NB392_391.out
            refine skip_ (w1 := ?_) (by rfl) rfl ?_ ?_
            rotate_left
            ·go_simp
             rfl
            refine hK.out _ _ ⟨(cf_ NB390_392.out hHeld.1),(cf_ NB390_392.out hHeld.2.1),(cf_ NB390_392.out hHeld.2.2.1),(cf_ NB390_392.out hHeld.2.2.2.1),(cf_ NB390_392.out hHeld.2.2.2.2)⟩ (fun hHeld => ?_)
            clear hK K
            refine jU_ 10 61 12 2047 ?_
            refine oNn_ 11 (none) (mk_ 12 4095) (fun K hK => ?_)
            have hs67 : w64.cell? ⟨gb392,4,none⟩ = some (.int .i64 0) := (blk_cell BK392.out 4).trans rfl
            have hfs67 := blk_frozen BK392.out 4
            have hns67_0 := NB390_392.out
            have hns67_1 := NB391_392.out
            have hms67_0 := NB392_390.out
            have hms67_1 := NB392_391.out
            refine skip_ (w1 := ?_) (by rfl) rfl ?_ ?_
            rotate_left
            ·go_simp
             rfl
            refine hK.out _ _ ⟨(cf_ NB390_392.out hHeld.1),(cf_ NB390_392.out hHeld.2.1),(cf_ NB390_392.out hHeld.2.2.1),(cf_ NB390_392.out hHeld.2.2.2.1),(cf_ NB390_392.out hHeld.2.2.2.2)⟩ (fun hHeld => ?_)
            clear hK K
            refine done_ (done_of HT_.out (by kernel_rfl)) ?_
            have hnb68 := NB392_390.out
            have hnc68 := NB390_392.out
            have hnb69 := NB392_391.out
            have hnc69 := NB391_392.out
            have z_70 := bR5_ BK392.out
            have hnb71 := NB391_390.out
            have hnc71 := NB390_391.out
            have z_72 := bR5_ BK391.out
            try go_wp2
            refine bodyPost_ret (results_cell_row rfl _ _ gb391 192 #[.int .i64 a0_0,.int .i64 a0_1,.int .i64 a0_2,.int .i64 0,.int .i64 a0_4] (0,0) _ rfl (by (with_reducible repeat (first | refine bN_ ?_ _ | refine bD_ ?_ | refine bA_ ?_ _));refine blk_put (cs := #[.int .i64 a0_0,.int .i64 a0_1,.int .i64 a0_2,.int .i64 0,.int .i64 0]) ?_ 4 _ rfl;refine blk_put (cs := #[.int .i64 a0_0,.int .i64 a0_1,.int .i64 a0_2,.int .i64 0,.int .i64 0]) ?_ 3 _ rfl;refine blk_put (cs := #[.int .i64 a0_0,.int .i64 a0_1,.int .i64 0,.int .i64 0,.int .i64 0]) ?_ 2 _ rfl;refine blk_put (cs := #[.int .i64 a0_0,.int .i64 0,.int .i64 0,.int .i64 0,.int .i64 0]) ?_ 1 _ rfl;refine blk_put (cs := #[.int .i64 0,.int .i64 0,.int .i64 0,.int .i64 0,.int .i64 0]) ?_ 0 _ rfl;exact rWf_ BK391.out) Try.underlying192 rfl (by kernel_rfl)) rfl ?_
            exact fI_ HB.out
           ·rw [if_neg c63] at H
            have c63b0 : (a0_0 == 7) = false := beq_eq_false_iff_ne.mpr c63
            have c63b1 : (a0_0 != 7) = true := bne_iff_ne.mpr c63
            have HC73 := aM_ H
            clear H
            go_upto_if 62 with (fail)
            go_cut [62] (fun v62 wc => ∃ (kq : Nat) (x62_72 : Bool),v62 = .bool x62_72 ∧ Aside0 (impl_named.j3 kq a0_0 x62_72 a0_0 a0_1 a0_2 a0_3 a0_4 a0_0 0 0 0 0 = some (r1,r2,r3,r4,r5)) ∧ Aside0 (kq ≤ kj50) ∧ Aside0 (wc.heap[gb390]? = some (.cells #[.int .i64 a0_0,.int .i64 a0_1,.int .i64 a0_2,.int .i64 a0_3,.int .i64 a0_4] 192 (0,0))) ∧ Aside0 (wc.heap[gb391]? = some (.cells #[.int .i64 0,.int .i64 0,.int .i64 0,.int .i64 0,.int .i64 0] 192 (0,0))) ∧ Aside0 (wc.heap[gb392]? = some (.cells #[.int .i64 a0_0,.int .i64 0,.int .i64 0,.int .i64 0,.int .i64 0] 192 (0,0))) ∧ Aside0 (Below w.heap.size w wc))
            case first =>
             have H := HC73.out
             clear HC73
             by_cases c74 : a0_0 = 9
             ·rw [if_pos c74] at H
              have c74b0 : (a0_0 == 9) = true := beq_iff_eq.mpr c74
              have c74b1 : (a0_0 != 9) = false := bne_eq_false_iff_eq.mpr c74
              clear c74
              (first | rw [c74b0] | (simp only [i64_w,i32_w];rw [c74b0]) | skip)
              have H' := aM_ H
              clear H
              go_wp2
              go_meet
              case rel => exact ⟨_,((a0_0 == 9)),(by first | rfl | (simp;done) | (simp [*];done)),H',⟨by have := HJ17.out;have := HJ39.out;have := HJ50.out;first | omega | exact Nat.le_refl _⟩,⟨rW_ BK390.out⟩,⟨rW_ BK391.out⟩,⟨rW_ BK392.out⟩,⟨gW_ HB.out⟩⟩
             ·rw [if_neg c74] at H
              have c74b0 : (a0_0 == 9) = false := beq_eq_false_iff_ne.mpr c74
              have c74b1 : (a0_0 != 9) = true := bne_iff_ne.mpr c74
              (first | rw [c74b0] | (simp only [i64_w,i32_w];rw [c74b0]) | skip)
              have H' := aM_ H
              clear H
              go_wp2
              go_meet
              case rel => exact ⟨_,((a0_0 == 11)),(by first | rfl | (simp;done) | (simp [*];done)),H',⟨by have := HJ17.out;have := HJ39.out;have := HJ50.out;first | omega | exact Nat.le_refl _⟩,⟨rW_ BK390.out⟩,⟨rW_ BK391.out⟩,⟨rW_ BK392.out⟩,⟨gW_ HB.out⟩⟩
            case rest =>
             clear HC73
             (try clear c1);(try clear c2);(try clear c2b0);(try clear c2b1);(try clear p2);(try clear c3);(try clear c4);(try clear c5);(try clear c6);(try clear c7);(try clear c8);(try clear c9);(try clear c18);(try clear c21);(try clear c24);(try clear c25);(try clear c28);(try clear c28b0);(try clear c28b1);(try clear c29);(try clear c29b0);(try clear c29b1);(try clear c30);(try clear c35);(try clear c36);(try clear c38);(try clear c41);(try clear c41b0);(try clear c41b1);(try clear c42);(try clear c46);(try clear c47);(try clear c49);(try clear c52);(try clear c52b0);(try clear c52b1);(try clear c53);(try clear c58);(try clear c59);(try clear c61);(try clear c63);(try clear c63b0);(try clear c63b1);(try clear c68);(try clear c69);(try clear c71);(try clear c74);(try clear c74b0);(try clear c74b1);(try clear z_10);(try clear z_11);(try clear z_16);(try clear z_17);(try clear z_22);(try clear z_26);(try clear z_27);(try clear z_37);(try clear z_39);(try clear z_48);(try clear z_50);(try clear z_60);(try clear z_62);(try clear z_6);(try clear z_70);(try clear z_72);(try clear p2)
             obtain ⟨kq,x62_72,rfl,HA,HJ72,BK390,BK391,BK392,HB⟩ := hcut
             cases kq with
             | zero => exact absurd HA.out (by simp [impl_named.j3])
             | succ kj72 =>
              have H := HA.out
              clear HA
              simp only [impl_named.j3] at H
              by_cases c75 : x62_72 = true
              ·subst c75
               have H1 : (some (a0_0,0,0,0,a0_4)) = some (r1,r2,r3,r4,r5) := by rw [if_pos rfl] at H;exact H
               clear H
               have H := H1
               clear H1
               simp only [Option.some.injEq,Prod.mk.injEq] at H
               obtain ⟨rfl,rfl,rfl,rfl,rfl⟩ := H
               have hnb76 := NB390_391.out
               have hnc76 := NB391_390.out
               have hnb77 := NB390_392.out
               have hnc77 := NB392_390.out
               have z_78 := bR5_ BK390.out
               have hnb79 := NB392_391.out
               have hnc79 := NB391_392.out
               have z_80 := bR5_ BK392.out
               have z_81 := bR5_ BK391.out
               go_wp2
               refine bodyPost_ret (results_cell_row rfl _ _ gb391 192 #[.int .i64 a0_0,.int .i64 0,.int .i64 0,.int .i64 0,.int .i64 a0_4] (0,0) _ rfl (by (with_reducible repeat (first | refine bN_ ?_ _ | refine bD_ ?_ | refine bA_ ?_ _));refine blk_put (cs := #[.int .i64 a0_0,.int .i64 0,.int .i64 0,.int .i64 0,.int .i64 0]) ?_ 4 _ rfl;refine blk_put (cs := #[.int .i64 a0_0,.int .i64 0,.int .i64 0,.int .i64 0,.int .i64 0]) ?_ 3 _ rfl;refine blk_put (cs := #[.int .i64 a0_0,.int .i64 0,.int .i64 0,.int .i64 0,.int .i64 0]) ?_ 2 _ rfl;refine blk_put (cs := #[.int .i64 a0_0,.int .i64 0,.int .i64 0,.int .i64 0,.int .i64 0]) ?_ 1 _ rfl;refine blk_put (cs := #[.int .i64 0,.int .i64 0,.int .i64 0,.int .i64 0,.int .i64 0]) ?_ 0 _ rfl;exact rWf_ BK391.out) Try.underlying192 rfl (by kernel_rfl)) rfl ?_
               exact fI_ HB.out
              ·replace c75 := Bool.eq_false_iff.mpr c75
               subst c75
               have H1 : (if a0_0 = 10 then (some (a0_0,0,a0_2,0,0)) else (some (a0_0,0,0,0,0))) = some (r1,r2,r3,r4,r5) := by rw [if_neg (show ¬ (false = true) by decide)] at H;exact H
               clear H
               have H := H1
               clear H1
               by_cases c82 : a0_0 = 10
               ·rw [if_pos c82] at H
                have c82b0 : (a0_0 == 10) = true := beq_iff_eq.mpr c82
                have c82b1 : (a0_0 != 10) = false := bne_eq_false_iff_eq.mpr c82
                clear c82
                simp only [Option.some.injEq,Prod.mk.injEq] at H
                obtain ⟨rfl,rfl,rfl,rfl,rfl⟩ := H
                have hnb83 := NB390_391.out
                have hnc83 := NB391_390.out
                have hnb84 := NB390_392.out
                have hnc84 := NB392_390.out
                have z_85 := bR5_ BK390.out
                have hnb86 := NB392_391.out
                have hnc86 := NB391_392.out
                have z_87 := bR5_ BK392.out
                have z_88 := bR5_ BK391.out
                go_wp2
                refine bodyPost_ret (results_cell_row rfl _ _ gb391 192 #[.int .i64 a0_0,.int .i64 0,.int .i64 a0_2,.int .i64 0,.int .i64 0] (0,0) _ rfl (by (with_reducible repeat (first | refine bN_ ?_ _ | refine bD_ ?_ | refine bA_ ?_ _));refine blk_put (cs := #[.int .i64 a0_0,.int .i64 0,.int .i64 a0_2,.int .i64 0,.int .i64 0]) ?_ 4 _ rfl;refine blk_put (cs := #[.int .i64 a0_0,.int .i64 0,.int .i64 a0_2,.int .i64 0,.int .i64 0]) ?_ 3 _ rfl;refine blk_put (cs := #[.int .i64 a0_0,.int .i64 0,.int .i64 0,.int .i64 0,.int .i64 0]) ?_ 2 _ rfl;refine blk_put (cs := #[.int .i64 a0_0,.int .i64 0,.int .i64 0,.int .i64 0,.int .i64 0]) ?_ 1 _ rfl;refine blk_put (cs := #[.int .i64 0,.int .i64 0,.int .i64 0,.int .i64 0,.int .i64 0]) ?_ 0 _ rfl;exact rWf_ BK391.out) Try.underlying192 rfl (by kernel_rfl)) rfl ?_
                exact fI_ HB.out
               ·rw [if_neg c82] at H
                have c82b0 : (a0_0 == 10) = false := beq_eq_false_iff_ne.mpr c82
                have c82b1 : (a0_0 != 10) = true := bne_iff_ne.mpr c82
                simp only [Option.some.injEq,Prod.mk.injEq] at H
                obtain ⟨rfl,rfl,rfl,rfl,rfl⟩ := H
                have hnb89 := NB392_390.out
                have hnc89 := NB390_392.out
                have hnb90 := NB392_391.out
                have hnc90 := NB391_392.out
                have z_91 := bR5_ BK392.out
                have hnb92 := NB391_390.out
                have hnc92 := NB390_391.out
                have z_93 := bR5_ BK391.out
                go_wp2
                refine bodyPost_ret (results_cell_row rfl _ _ gb391 192 #[.int .i64 a0_0,.int .i64 0,.int .i64 0,.int .i64 0,.int .i64 0] (0,0) _ rfl (by (with_reducible repeat (first | refine bN_ ?_ _ | refine bD_ ?_ | refine bA_ ?_ _));refine blk_put (cs := #[.int .i64 a0_0,.int .i64 0,.int .i64 0,.int .i64 0,.int .i64 0]) ?_ 4 _ rfl;refine blk_put (cs := #[.int .i64 a0_0,.int .i64 0,.int .i64 0,.int .i64 0,.int .i64 0]) ?_ 3 _ rfl;refine blk_put (cs := #[.int .i64 a0_0,.int .i64 0,.int .i64 0,.int .i64 0,.int .i64 0]) ?_ 2 _ rfl;refine blk_put (cs := #[.int .i64 a0_0,.int .i64 0,.int .i64 0,.int .i64 0,.int .i64 0]) ?_ 1 _ rfl;refine blk_put (cs := #[.int .i64 0,.int .i64 0,.int .i64 0,.int .i64 0,.int .i64 0]) ?_ 0 _ rfl;exact rW_ BK391.out) Try.underlying192 rfl (by kernel_rfl)) rfl ?_
                exact fI_ HB.out
def impl_isReg.f (a0 : Int) : Option (Bool) := (impl_within.f a0 0 3).bind fun t393 => (some t393)
set_option maxHeartbeats 8000000 in
theorem impl_isReg.calls (a0 : Int) (r : Bool) (w : World) (h : impl_isReg.f a0 = some r) :
  Calls Try.prog 184 #[.int .i64 a0] w fun e w' => e = .returned (.bool r) ∧ Drawn0 w w' := by
 have H : ((impl_within.f a0 0 3).bind fun t393 => (some t393)) = some r := h
 clear h
 replace H := Option.bind_eq_some_iff.mp H
 obtain ⟨t393,A20,H⟩ := H
 replace H : (some t393) = some r := H
 have A2 := aM_ A20
 clear A20
 obtain rfl := sJ_ H
 go_enter Try.func184,Try.ntmps184
 go_wp2_with (first | (refine gL_ (some 4) Try.func106 #[.int .i64 a0,.int .i64 0,.int .i64 3] ?_;(with_reducible refine (impl_within.calls a0 0 3 t393 _ A2.out).mono ?_);rintro e w' ⟨rfl,⟨nd,rfl⟩⟩;refine ⟨_,rfl,?_⟩))
 go_ret
 exact ⟨by first | rfl | (simp;done) | (simp [*];done),by repeat (first | exact Drawn0.refl _ | apply Drawn0.step)⟩
def impl_ofChan.f (a0 : Int) : Option (Bool) := (impl_within.f a0 5 9).bind fun t394 => (some t394)
set_option maxHeartbeats 8000000 in
theorem impl_ofChan.calls (a0 : Int) (r : Bool) (w : World) (h : impl_ofChan.f a0 = some r) :
  Calls Try.prog 185 #[.int .i64 a0] w fun e w' => e = .returned (.bool r) ∧ Drawn0 w w' := by
 have H : ((impl_within.f a0 5 9).bind fun t394 => (some t394)) = some r := h
 clear h
 replace H := Option.bind_eq_some_iff.mp H
 obtain ⟨t394,A20,H⟩ := H
 replace H : (some t394) = some r := H
 have A2 := aM_ A20
 clear A20
 obtain rfl := sJ_ H
 go_enter Try.func185,Try.ntmps185
 go_wp2_with (first | (refine gL_ (some 4) Try.func106 #[.int .i64 a0,.int .i64 5,.int .i64 9] ?_;(with_reducible refine (impl_within.calls a0 5 9 t394 _ A2.out).mono ?_);rintro e w' ⟨rfl,⟨nd,rfl⟩⟩;refine ⟨_,rfl,?_⟩))
 go_ret
 exact ⟨by first | rfl | (simp;done) | (simp [*];done),by repeat (first | exact Drawn0.refl _ | apply Drawn0.step)⟩
end Go.Proofs.Ytobachfngmpeiaa.PFnExactAble
