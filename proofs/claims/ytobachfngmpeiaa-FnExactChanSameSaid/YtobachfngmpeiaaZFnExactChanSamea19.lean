/- A part of the proof that the law FnExactChanSame holds for every input: the words, functions and walks that its row needs, without a condition of their own. -/
import Derived.Test.YtobachfngmpeiaaZFnExactChanSamea2
import Derived.Test.YtobachfngmpeiaaZFnExactChanSamea17
import Derived.Test.YtobachfngmpeiaaZFnExactChanSamea18
import Derived.Test.YtobachfngmpeiaaZFnExactChanSames
namespace Go.Proofs.Ytobachfngmpeiaa.PFnExactChanSame
open Go.RowKit Go.Proofs.YtobachfngmpeiaaW.PrintWords Go.Proofs.YtobachfngmpeiaaW.PrintLast Go.Proofs.YtobachfngmpeiaaW.PrintMore
attribute [local go_sem] max2_int min2_int max_two min_two max_three min_three max_four min_four   -- for this text's walks alone
set_option linter.unusedVariables false
set_option linter.unusedSimpArgs false
mutual
def impl_Memory_channel.j0 : Nat → Int → Int → Int → Int → Int → Bool → List (List (S170)) → Option (Int × List Int × Bool × Bool)
  | 0,_,_,_,_,_,_,_ => none
  | k + 1,x1,x2,x8,x9,x10,x40,x1000 => if x40 = true then (some (0,([] : List Int),false,false)) else (impl_Memory_channel.l0 k x1 x2 x8 x9 0 x1000 x2 ([] : List Int) (x10 == 1))
def impl_Memory_channel.l0 : Nat → Int → Int → Int → Int → Int → List (List (S170)) → Int → List Int → Bool → Option (Int × List Int × Bool × Bool)
  | 0,_,_,_,_,_,_,_,_,_ => none
  | k + 1,x1,x2,x8,x46,x47,x1000,x469000,x469001,x469002 => if x47 < x46 then (if x2 = 0 then (none) else ((impl_Memory_last.f x1000 (wrap64 ((wrap64 (x1 + 4)) + (Int.tmod (wrap64 (x8 + x47)) x2)))).bind fun t469 => (if x469001.length < 17592186044416 then (impl_Memory_channel.l0 k x1 x2 x8 x46 (wrap64 (x47 + 1)) x1000 x469000 (x469001 ++ [t469]) x469002) else (none)))) else (some (x469000,x469001,x469002,true))
end
def impl_Memory_channel.f (k : Nat) (s0_0 : List (List (S170))) (a1 : Int) (a2 : Int) : Option (Int × List Int × Bool × Bool) := (impl_Memory_last.f s0_0 (wrap64 (a1 + 1))).bind fun t462 => ((impl_Memory_last.f s0_0 (wrap64 (a1 + 2))).bind fun t463 => ((impl_Memory_last.f s0_0 (wrap64 (a1 + 3))).bind fun t464 => ((impl_within.f t462 0 (wrap64 (a2 - 1))).bind fun t465 => (if t465 = true then ((impl_within.f t463 0 a2).bind fun t466 => (if t466 = true then ((impl_within.f t464 0 1).bind fun t467 => (impl_Memory_channel.j0 k a1 a2 t462 t463 t464 (!t467) s0_0)) else (impl_Memory_channel.j0 k a1 a2 t462 t463 t464 true s0_0))) else (impl_Memory_channel.j0 k a1 a2 t462 t463 t464 true s0_0)))))
def impl_Memory_channel.T8 : Bool × List (List Nat × List Nat) := (true,[([],[]),([0],[0]),([],[]),([],[]),([3],[3]),([],[]),([],[]),([5,6],[5,6]),([],[]),([7,8],[7,8]),([4,9],[4,9]),([2,10],[2,10]),([11],[11]),([1,12,11],[1,12]),([0,1,2,3,4,5,6,7,8,9,10,11,12,13],[]),([14,13,13,0,1,2,3,4,5,6,7,8,9,10,11,12,13],[13,14])])
def impl_Memory_channel.B8 : List Nat := [0,1,0,0,8,0,0,96,0,480,1016,2044,4092,8191,16383,32767]
theorem impl_Memory_channel.tab8 : rtab .any (opsOf Try.f115 8) = impl_Memory_channel.T8 := by kernel_rfl
theorem impl_Memory_channel.bits8 : waitsOk impl_Memory_channel.T8.2 impl_Memory_channel.B8 = true := by kernel_rfl
set_option maxHeartbeats 8000000 in
set_option maxRecDepth 100000 in
theorem impl_Memory_channel.calls (k : Nat) (g : Nat) (s0_0 : List (List (S170))) (a1 : Int) (a2 : Int) (r1 : Int) (r2 : List Int) (r3 : Bool) (r4 : Bool) (w0 w : World) (hI : IsS57 w0 w g s0_0) (hB : Below w0.heap.size w0 w) (h : impl_Memory_channel.f k s0_0 a1 a2 = some (r1,r2,r3,r4)) :
  Calls Try.prog 115 #[.pointer (some ⟨g,0,none⟩),.int .i64 a1,.int .i64 a2] w fun e w' => ∃ v1_ : Value,e = .returned (.tuple #[.agg #[.int .i64 r1,v1_,.bool r3],.bool r4]) ∧ Kd.R (Kd.int .i64) 3 w' w.heap.size (fun _ => True) v1_ r2 ∧ IsS57 w0 w' g s0_0 ∧ Below w0.heap.size w0 w' ∧ KeepBut w w' g none := by
 have hu94 := Try.underlying94
 have HI0 := aM_ hI
 have HK := aM_ (KeepBut.refl w g none)
 have HL := aM_ hB.size
 clear hI
 have HW0 := aM_ hB.size
 have HB := aM_ hB
 clear hB
 have H : ((impl_Memory_last.f s0_0 (wrap64 (a1 + 1))).bind fun t462 => ((impl_Memory_last.f s0_0 (wrap64 (a1 + 2))).bind fun t463 => ((impl_Memory_last.f s0_0 (wrap64 (a1 + 3))).bind fun t464 => ((impl_within.f t462 0 (wrap64 (a2 - 1))).bind fun t465 => (if t465 = true then ((impl_within.f t463 0 a2).bind fun t466 => (if t466 = true then ((impl_within.f t464 0 1).bind fun t467 => (impl_Memory_channel.j0 k a1 a2 t462 t463 t464 (!t467) s0_0)) else (impl_Memory_channel.j0 k a1 a2 t462 t463 t464 true s0_0))) else (impl_Memory_channel.j0 k a1 a2 t462 t463 t464 true s0_0)))))) = some (r1,r2,r3,r4) := h
 clear h
 replace H := Option.bind_eq_some_iff.mp H
 obtain ⟨t462,A40,H⟩ := H
 replace H : ((impl_Memory_last.f s0_0 (wrap64 (a1 + 2))).bind fun t463 => ((impl_Memory_last.f s0_0 (wrap64 (a1 + 3))).bind fun t464 => ((impl_within.f t462 0 (wrap64 (a2 - 1))).bind fun t465 => (if t465 = true then ((impl_within.f t463 0 a2).bind fun t466 => (if t466 = true then ((impl_within.f t464 0 1).bind fun t467 => (impl_Memory_channel.j0 k a1 a2 t462 t463 t464 (!t467) s0_0)) else (impl_Memory_channel.j0 k a1 a2 t462 t463 t464 true s0_0))) else (impl_Memory_channel.j0 k a1 a2 t462 t463 t464 true s0_0))))) = some (r1,r2,r3,r4) := H
 have A4 := aM_ A40
 clear A40
 replace H := Option.bind_eq_some_iff.mp H
 obtain ⟨t463,A50,H⟩ := H
 replace H : ((impl_Memory_last.f s0_0 (wrap64 (a1 + 3))).bind fun t464 => ((impl_within.f t462 0 (wrap64 (a2 - 1))).bind fun t465 => (if t465 = true then ((impl_within.f t463 0 a2).bind fun t466 => (if t466 = true then ((impl_within.f t464 0 1).bind fun t467 => (impl_Memory_channel.j0 k a1 a2 t462 t463 t464 (!t467) s0_0)) else (impl_Memory_channel.j0 k a1 a2 t462 t463 t464 true s0_0))) else (impl_Memory_channel.j0 k a1 a2 t462 t463 t464 true s0_0)))) = some (r1,r2,r3,r4) := H
 have A5 := aM_ A50
 clear A50
 replace H := Option.bind_eq_some_iff.mp H
 obtain ⟨t464,A60,H⟩ := H
 replace H : ((impl_within.f t462 0 (wrap64 (a2 - 1))).bind fun t465 => (if t465 = true then ((impl_within.f t463 0 a2).bind fun t466 => (if t466 = true then ((impl_within.f t464 0 1).bind fun t467 => (impl_Memory_channel.j0 k a1 a2 t462 t463 t464 (!t467) s0_0)) else (impl_Memory_channel.j0 k a1 a2 t462 t463 t464 true s0_0))) else (impl_Memory_channel.j0 k a1 a2 t462 t463 t464 true s0_0))) = some (r1,r2,r3,r4) := H
 have A6 := aM_ A60
 clear A60
 have HC7 := aM_ H
 clear H
 go_enter Try.func115,Try.ntmps115
 go_upto_region 2 with (first | ((with_reducible refine gate_dst (N := 6) rfl ?_);refine bX_ 6 (cs := #[.int .i64 0,.slice none 0 0,.bool false]) (t := 94) ?_;intro gb461 hg w8 hbox hb;have n0 := aM_ (IsS57.below (gI57_ HI0.out) hb);have n1 := aM_ (KeepBut.trans (gK_ HK.out) (KeepBut.of_below hb g none) (.inl rfl));have n2 := aM_ (below_step (gB57_ HB.out) hb);have n3 := aM_ (hbox);have n4 := aM_ ((by rw [hg];exact (keep_size (w := w) (g := g) (row := none) (gK_ HK.out)) : w.heap.size ≤ gb461));have n5 := aM_ ((Nat.le_trans HW0.out (by rw [hg];exact (keep_size (w := w) (g := g) (row := none) (gK_ HK.out)) : w.heap.size ≤ gb461) : w0.heap.size ≤ gb461));have n6 := aM_ ((by rw [hg];exact Nat.ne_of_lt (IsS57.lt (show IsS57 w0 _ g s0_0 from gI57_ HI0.out)) : g ≠ gb461));have n7 := aM_ ((by rw [hg];exact Nat.ne_of_gt (IsS57.lt (show IsS57 w0 _ g s0_0 from gI57_ HI0.out)) : gb461 ≠ g));clear HI0;clear HK;clear HB;have HI0 := n0;have HK := n1;have HB := n2;have BK461 := n3;have GW461 := n4;have GE461 := n5;have NB0_461 := n6;have NB461_0 := n7;clear n0 n1 n2 n3 n4 n5 n6 n7;clear hb hbox hg) | ((with_reducible refine gate_callee (f := 118) rfl ?_);refine gL_ (some 16) Try.func118 #[.pointer (some ⟨g,0,none⟩),.int .i64 (wrap64 (a1 + 1))] ?_;(with_reducible refine (impl_Memory_last.calls g s0_0 (wrap64 (a1 + 1)) t462 w0 _ ?side1 ?side2 A4.out).mono ?_);(case side1 => exact gI57_ HI0.out);(case side2 => exact gB57_ HB.out);rintro e w9 ⟨rfl,hi,hb,hk⟩;refine ⟨_,rfl,?_⟩;have n0 := aM_ (KeepBut.blk hk (g' := gb461) (o := .cells #[.int .i64 0,.slice none 0 0,.bool false] 94 (0,0)) (by (with_reducible repeat (first | refine bN_ ?_ _ | refine bD_ ?_ | refine bA_ ?_ _));exact BK461.out) NB461_0.out (by simp));have n1 := aM_ (KeepBut.trans (gK_ HK.out) hk (.inl rfl));have n2 := aM_ (hb);have n3 := aM_ (hi);clear BK461;clear HK;clear HB;clear HI0;have BK461 := n0;have HK := n1;have HB := n2;have HI0 := n3;clear n0 n1 n2 n3) | ((with_reducible refine gate_callee (f := 118) rfl ?_);refine gL_ (some 20) Try.func118 #[.pointer (some ⟨g,0,none⟩),.int .i64 (wrap64 (a1 + 2))] ?_;(with_reducible refine (impl_Memory_last.calls g s0_0 (wrap64 (a1 + 2)) t463 w0 _ ?side1 ?side2 A5.out).mono ?_);(case side1 => exact gI57_ HI0.out);(case side2 => exact gB57_ HB.out);rintro e w10 ⟨rfl,hi,hb,hk⟩;refine ⟨_,rfl,?_⟩;have n0 := aM_ (KeepBut.blk hk (g' := gb461) (o := .cells #[.int .i64 0,.slice none 0 0,.bool false] 94 (0,0)) (by (with_reducible repeat (first | refine bN_ ?_ _ | refine bD_ ?_ | refine bA_ ?_ _));exact BK461.out) NB461_0.out (by simp));have n1 := aM_ (KeepBut.trans (gK_ HK.out) hk (.inl rfl));have n2 := aM_ (hb);have n3 := aM_ (hi);clear BK461;clear HK;clear HB;clear HI0;have BK461 := n0;have HK := n1;have HB := n2;have HI0 := n3;clear n0 n1 n2 n3) | ((with_reducible refine gate_callee (f := 118) rfl ?_);refine gL_ (some 24) Try.func118 #[.pointer (some ⟨g,0,none⟩),.int .i64 (wrap64 (a1 + 3))] ?_;(with_reducible refine (impl_Memory_last.calls g s0_0 (wrap64 (a1 + 3)) t464 w0 _ ?side1 ?side2 A6.out).mono ?_);(case side1 => exact gI57_ HI0.out);(case side2 => exact gB57_ HB.out);rintro e w11 ⟨rfl,hi,hb,hk⟩;refine ⟨_,rfl,?_⟩;have n0 := aM_ (KeepBut.blk hk (g' := gb461) (o := .cells #[.int .i64 0,.slice none 0 0,.bool false] 94 (0,0)) (by (with_reducible repeat (first | refine bN_ ?_ _ | refine bD_ ?_ | refine bA_ ?_ _));exact BK461.out) NB461_0.out (by simp));have n1 := aM_ (KeepBut.trans (gK_ HK.out) hk (.inl rfl));have n2 := aM_ (hb);have n3 := aM_ (hi);clear BK461;clear HK;clear HB;clear HI0;have BK461 := n0;have HK := n1;have HB := n2;have HI0 := n3;clear n0 n1 n2 n3))
 (try simp only [Act.put,List.setIfInBounds_toArray,List.set_cons_zero,List.set_cons_succ])
 go_cut [40] (fun v40 wc => ∃ (kq : Nat) (x40_6 : Bool),v40 = .bool x40_6 ∧ Aside0 (impl_Memory_channel.j0 kq a1 a2 t462 t463 t464 x40_6 s0_0 = some (r1,r2,r3,r4)) ∧ Aside0 (kq ≤ k) ∧ Aside0 (wc.heap[gb461]? = some (.cells #[.int .i64 0,(.slice none 0 0),.bool false] 94 (0,0))) ∧ Aside0 (IsS57 w0 wc g s0_0) ∧ Aside0 (KeepBut w wc g none) ∧ Aside0 (Below w0.heap.size w0 wc))
 case first =>
  have H := HC7.out
  clear HC7
  replace H := Option.bind_eq_some_iff.mp H
  obtain ⟨t465,A120,H⟩ := H
  replace H : (if t465 = true then ((impl_within.f t463 0 a2).bind fun t466 => (if t466 = true then ((impl_within.f t464 0 1).bind fun t467 => (impl_Memory_channel.j0 k a1 a2 t462 t463 t464 (!t467) s0_0)) else (impl_Memory_channel.j0 k a1 a2 t462 t463 t464 true s0_0))) else (impl_Memory_channel.j0 k a1 a2 t462 t463 t464 true s0_0)) = some (r1,r2,r3,r4) := H
  have A12 := aM_ A120
  clear A120
  by_cases c13 : t465 = true
  ·subst c13
   have H1 : ((impl_within.f t463 0 a2).bind fun t466 => (if t466 = true then ((impl_within.f t464 0 1).bind fun t467 => (impl_Memory_channel.j0 k a1 a2 t462 t463 t464 (!t467) s0_0)) else (impl_Memory_channel.j0 k a1 a2 t462 t463 t464 true s0_0))) = some (r1,r2,r3,r4) := by rw [if_pos rfl] at H;exact H
   clear H
   have H := H1
   clear H1
   replace H := Option.bind_eq_some_iff.mp H
   obtain ⟨t466,A140,H⟩ := H
   replace H : (if t466 = true then ((impl_within.f t464 0 1).bind fun t467 => (impl_Memory_channel.j0 k a1 a2 t462 t463 t464 (!t467) s0_0)) else (impl_Memory_channel.j0 k a1 a2 t462 t463 t464 true s0_0)) = some (r1,r2,r3,r4) := H
   have A14 := aM_ A140
   clear A140
   by_cases c15 : t466 = true
   ·subst c15
    have H1 : ((impl_within.f t464 0 1).bind fun t467 => (impl_Memory_channel.j0 k a1 a2 t462 t463 t464 (!t467) s0_0)) = some (r1,r2,r3,r4) := by rw [if_pos rfl] at H;exact H
    clear H
    have H := H1
    clear H1
    replace H := Option.bind_eq_some_iff.mp H
    obtain ⟨t467,A160,H⟩ := H
    replace H : (impl_Memory_channel.j0 k a1 a2 t462 t463 t464 (!t467) s0_0) = some (r1,r2,r3,r4) := H
    have A16 := aM_ A160
    clear A160
    have H' := aM_ H
    clear H
    go_wp2_with (first | ((with_reducible refine gate_callee (f := 106) rfl ?_);refine gL_ (some 28) Try.func106 #[.int .i64 t462,.int .i64 0,.int .i64 (wrap64 (a2 - 1))] ?_;(with_reducible refine (impl_within.calls t462 0 (wrap64 (a2 - 1)) true _ A12.out).mono ?_);rintro e w' ⟨rfl,⟨nd,rfl⟩⟩;refine ⟨_,rfl,?_⟩) | (go_at_call 106;(with_reducible refine (impl_within.calls t463 0 a2 true _ A14.out).mono ?_);rintro e w' ⟨rfl,⟨nd,rfl⟩⟩) | (go_at_call 106;(with_reducible refine (impl_within.calls t464 0 1 t467 _ A16.out).mono ?_);rintro e w' ⟨rfl,⟨nd,rfl⟩⟩))
    go_meet
    case rel => exact ⟨_,(!t467),(by first | rfl | (simp;done) | (simp [*];done)),H',⟨by first | omega | exact Nat.le_refl _⟩,⟨rW_ BK461.out⟩,⟨gI57_ HI0.out⟩,⟨gK_ HK.out⟩,⟨gB57_ HB.out⟩⟩
   ·replace c15 := Bool.eq_false_iff.mpr c15
    subst c15
    have H1 : (impl_Memory_channel.j0 k a1 a2 t462 t463 t464 true s0_0) = some (r1,r2,r3,r4) := by rw [if_neg (show ¬ (false = true) by decide)] at H;exact H
    clear H
    have H := H1
    clear H1
    have H' := aM_ H
    clear H
    go_wp2_with (first | ((with_reducible refine gate_callee (f := 106) rfl ?_);refine gL_ (some 28) Try.func106 #[.int .i64 t462,.int .i64 0,.int .i64 (wrap64 (a2 - 1))] ?_;(with_reducible refine (impl_within.calls t462 0 (wrap64 (a2 - 1)) true _ A12.out).mono ?_);rintro e w' ⟨rfl,⟨nd,rfl⟩⟩;refine ⟨_,rfl,?_⟩) | (go_at_call 106;(with_reducible refine (impl_within.calls t463 0 a2 false _ A14.out).mono ?_);rintro e w' ⟨rfl,⟨nd,rfl⟩⟩))
    go_meet
    case rel => exact ⟨_,(true),(by first | rfl | (simp;done) | (simp [*];done)),H',⟨by first | omega | exact Nat.le_refl _⟩,⟨rW_ BK461.out⟩,⟨gI57_ HI0.out⟩,⟨gK_ HK.out⟩,⟨gB57_ HB.out⟩⟩
  ·replace c13 := Bool.eq_false_iff.mpr c13
   subst c13
   have H1 : (impl_Memory_channel.j0 k a1 a2 t462 t463 t464 true s0_0) = some (r1,r2,r3,r4) := by rw [if_neg (show ¬ (false = true) by decide)] at H;exact H
   clear H
   have H := H1
   clear H1
   have H' := aM_ H
   clear H
   go_wp2_with (first | ((with_reducible refine gate_callee (f := 106) rfl ?_);refine gL_ (some 28) Try.func106 #[.int .i64 t462,.int .i64 0,.int .i64 (wrap64 (a2 - 1))] ?_;(with_reducible refine (impl_within.calls t462 0 (wrap64 (a2 - 1)) false _ A12.out).mono ?_);rintro e w' ⟨rfl,⟨nd,rfl⟩⟩;refine ⟨_,rfl,?_⟩))
   go_meet
   case rel => exact ⟨_,(true),(by first | rfl | (simp;done) | (simp [*];done)),H',⟨by first | omega | exact Nat.le_refl _⟩,⟨rW_ BK461.out⟩,⟨gI57_ HI0.out⟩,⟨gK_ HK.out⟩,⟨gB57_ HB.out⟩⟩
 case rest =>
  clear HC7
  try clear c1
  try clear p2
  try clear p6
  try clear c10
  try clear c11
  try clear c13
  try clear c15
  obtain ⟨kq,x40_6,rfl,HA,HJ6,BK461,HI0,HK,HB⟩ := hcut
  cases kq with
  | zero => exact absurd HA.out (by simp [impl_Memory_channel.j0])
  | succ kj6 =>
   have H := HA.out
   clear HA
   simp only [impl_Memory_channel.j0] at H
   by_cases c17 : x40_6 = true
   ·subst c17
    have H1 : (some (0,([] : List Int),false,false)) = some (r1,r2,r3,r4) := by rw [if_pos rfl] at H;exact H
    clear H
    have H := H1
    clear H1
    simp only [Option.some.injEq,Prod.mk.injEq] at H
    obtain ⟨rfl,rfl,rfl,rfl⟩ := H
    have hnb18 := NB461_0.out
    have hnc18 := NB0_461.out
    obtain ⟨hcz19_0,hcz19_1,hcz19_2,hfz19_0,hfz19_1,hfz19_2⟩ := bR3_ BK461.out
    go_wp2
    refine bodyPost_ret (results_ct rfl _ _ gb461 94 #[.int .i64 0,.slice none 0 0,.bool false] (0,0) _ rfl (by (with_reducible repeat (first | refine bN_ ?_ _ | refine bD_ ?_ | refine bA_ ?_ _));refine blk_put (cs := #[.int .i64 0,.slice none 0 0,.bool false]) ?_ 2 _ rfl;refine blk_put (cs := #[.int .i64 0,.slice none 0 0,.bool false]) ?_ 1 _ rfl;refine blk_put (cs := #[.int .i64 0,.slice none 0 0,.bool false]) ?_ 0 _ rfl;exact rW_ BK461.out) Try.underlying94 rfl (by kernel_rfl)) rfl ?_
    exact ⟨_,fR_,by first | exact Kd.R_nil _ _ _ _ _ | exact Kd.N_nil _ _ _ _ _ | exact Kd.V_nil _ _ _ _ _ | exact Kd.Q_nil _ _ _ _ _ | exact Kd.S_nil _ _ _ _ _,gI57_ HI0.out,gB57_ HB.out,gK_ HK.out⟩
   ·replace c17 := Bool.eq_false_iff.mpr c17
    subst c17
    have H1 : (impl_Memory_channel.l0 kj6 a1 a2 t462 t463 0 s0_0 a2 ([] : List Int) (t464 == 1)) = some (r1,r2,r3,r4) := by rw [if_neg (show ¬ (false = true) by decide)] at H;exact H
    clear H
    have H := H1
    clear H1
    have H' := aM_ H
    clear H
    go_wp2_with (first | ((with_reducible refine gate_dst (N := 11) rfl ?_);refine bX_ 11 (cs := #[.int .i64 0,.slice none 0 0,.bool false]) (t := 94) ?_;intro gb468 hg w20 hbox hb;have n0 := aM_ (nB_ BK461.out hb);have n1 := aM_ (IsS57.below (gI57_ HI0.out) hb);have n2 := aM_ (KeepBut.trans (gK_ HK.out) (KeepBut.of_below hb g none) (.inl rfl));have n3 := aM_ (below_step (gB57_ HB.out) hb);have n4 := aM_ (hbox);have n5 := aM_ ((by rw [hg];exact (keep_size (w := w) (g := g) (row := none) (gK_ HK.out)) : w.heap.size ≤ gb468));have n6 := aM_ ((Nat.le_trans HW0.out (by rw [hg];exact (keep_size (w := w) (g := g) (row := none) (gK_ HK.out)) : w.heap.size ≤ gb468) : w0.heap.size ≤ gb468));have n7 := aM_ (nL_ hg BK461.out);have n8 := aM_ (nG_ hg BK461.out);have n9 := aM_ ((by rw [hg];exact Nat.ne_of_lt (IsS57.lt (show IsS57 w0 _ g s0_0 from gI57_ HI0.out)) : g ≠ gb468));have n10 := aM_ ((by rw [hg];exact Nat.ne_of_gt (IsS57.lt (show IsS57 w0 _ g s0_0 from gI57_ HI0.out)) : gb468 ≠ g));clear BK461;clear HI0;clear HK;clear HB;have BK461 := n0;have HI0 := n1;have HK := n2;have HB := n3;have BK468 := n4;have GW468 := n5;have GE468 := n6;have NB461_468 := n7;have NB468_461 := n8;have NB0_468 := n9;have NB468_0 := n10;clear n0 n1 n2 n3 n4 n5 n6 n7 n8 n9 n10;clear hb hbox hg;have hnb21 := NB468_461.out;have hnc21 := NB461_468.out;have hnb22 := NB468_0.out;have hnc22 := NB0_468.out;obtain ⟨hcz23_0,hcz23_1,hcz23_2,hfz23_0,hfz23_1,hfz23_2⟩ := bR3_ BK468.out))
    go_loopg [47] kj6 (fun kq v47 w' => ∃ (x47_2 : Int) (x4691_2 : List Int) (u4691 : Value),v47 = .int .i64 x47_2 ∧ Aside0 (impl_Memory_channel.l0 kq a1 a2 t462 t463 x47_2 s0_0 a2 x4691_2 (t464 == 1) = some (r1,r2,r3,r4)) ∧ Aside0 (kq ≤ kj6) ∧ Aside0 (Kd.R (Kd.int .i64) 3 w' w.heap.size (fun _ => True) u4691 x4691_2) ∧ Aside0 (w'.heap[gb461]? = some (.cells #[.int .i64 0,(.slice none 0 0),.bool false] 94 (0,0))) ∧ Aside0 (w'.heap[gb468]? = some (.cells #[.int .i64 a2,u4691,.bool (t464 == 1)] 94 (0,0))) ∧ Aside0 (IsS57 w0 w' g s0_0) ∧ Aside0 (KeepBut w w' g none) ∧ Aside0 (Below w0.heap.size w0 w'))
    case atStart => exact ⟨(0),(([] : List Int)),(.slice none 0 0),(by first | rfl | (simp;done) | (simp [*];done)),H',⟨Nat.le_refl _⟩,⟨by first | exact Kd.R_nil _ _ _ _ _ | exact Kd.N_nil _ _ _ _ _ | exact Kd.V_nil _ _ _ _ _ | exact Kd.Q_nil _ _ _ _ _ | exact Kd.S_nil _ _ _ _ _⟩,⟨by (with_reducible repeat (first | refine bN_ ?_ _ | refine bD_ ?_ | refine bA_ ?_ _));refine blk_far ?_ NB461_468.out _;(with_reducible repeat (first | refine bN_ ?_ _ | refine bD_ ?_ | refine bA_ ?_ _));refine blk_far ?_ NB461_468.out _;(with_reducible repeat (first | refine bN_ ?_ _ | refine bD_ ?_ | refine bA_ ?_ _));refine blk_far ?_ NB461_468.out _;(with_reducible repeat (first | refine bN_ ?_ _ | refine bD_ ?_ | refine bA_ ?_ _));exact BK461.out⟩,⟨by (with_reducible repeat (first | refine bN_ ?_ _ | refine bD_ ?_ | refine bA_ ?_ _));refine blk_put (cs := #[.int .i64 a2,.slice none 0 0,.bool false]) ?_ 2 _ rfl;refine blk_put (cs := #[.int .i64 a2,.slice none 0 0,.bool false]) ?_ 1 _ rfl;refine blk_put (cs := #[.int .i64 0,.slice none 0 0,.bool false]) ?_ 0 _ rfl;(with_reducible repeat (first | refine bN_ ?_ _ | refine bD_ ?_ | refine bA_ ?_ _));exact BK468.out⟩,⟨gI57_ HI0.out⟩,⟨gK_ HK.out⟩,⟨gB57_ HB.out⟩⟩
    case round =>
     clear H'
     try clear c1
     try clear c2
     try clear p2
     try clear p6
     try clear c10
     try clear c11
     try clear c13
     try clear c15
     try clear c17
     try clear c18
     try clear c21
     try clear c22
     try clear hcz19_0 hcz19_1 hcz19_2 hfz19_0 hfz19_1 hfz19_2
     try clear hcz23_0 hcz23_1 hcz23_2 hfz23_0 hfz23_1 hfz23_2
     try clear p2
     try clear p6
     obtain ⟨x47_2,x4691_2,u4691,rfl,HA,HK2,HO_469001,BK461,BK468,HI0,HK,HB⟩ := hrel
     cases gk with
     | zero => exact absurd HA.out (by simp [impl_Memory_channel.l0])
     | succ k2 =>
      have H := HA.out
      clear HA
      simp only [impl_Memory_channel.l0] at H
      by_cases c24 : x47_2 < t463
      ·rw [if_pos c24] at H
       have c24b0 : decide (x47_2 < t463) = true := decide_eq_true c24
       clear c24
       by_cases c25 : a2 = 0
       ·rw [if_pos c25] at H
        exact absurd H (by simp)
       ·rw [if_neg c25] at H
        have c25b0 : (a2 == 0) = false := beq_eq_false_iff_ne.mpr c25
        have c25b1 : (a2 != 0) = true := bne_iff_ne.mpr c25
        replace H := Option.bind_eq_some_iff.mp H
        obtain ⟨t469,A260,H⟩ := H
        replace H : (if x4691_2.length < 17592186044416 then (impl_Memory_channel.l0 k2 a1 a2 t462 t463 (wrap64 (x47_2 + 1)) s0_0 a2 (x4691_2 ++ [t469]) (t464 == 1)) else (none)) = some (r1,r2,r3,r4) := H
        have A26 := aM_ A260
        clear A260
        by_cases c27 : x4691_2.length < 17592186044416
        ·rw [if_pos c27] at H
         have LMc27 := aM_ c27
         clear c27
         obtain ⟨y470,hy470⟩ : ∃ y_ : List Int,y_ = (x4691_2 ++ [t469]) := ⟨_,rfl⟩
         replace H : (impl_Memory_channel.l0 k2 a1 a2 t462 t463 (wrap64 (x47_2 + 1)) s0_0 a2 y470 (t464 == 1)) = some (r1,r2,r3,r4) := by first | (rw [hy470];with_reducible exact H) | (have H2_ := (Option.bind_some _ _).symm.trans H;rw [hy470];with_reducible exact H2_) | (have H2_ := (Option.bind_some _ _).symm.trans H;with_reducible exact H2_) | with_reducible exact H | (rw [hy470];exact H) | exact H
         have Ny470 := aM_ hy470
         clear hy470
         have H' := aM_ H
         clear H
         try go_wp2
         have n0 := aM_ (Kd.R_drew HO_469001.out)
         have n1 := aM_ (blk_drew BK461.out)
         have n2 := aM_ (blk_drew BK468.out)
         have n3 := aM_ (IsS57.drew HI0.out)
         have n4 := aM_ (keep_drew HK.out)
         have n5 := aM_ (below_drew1 HB.out)
         clear HO_469001
         clear BK461
         clear BK468
         clear HI0
         clear HK
         clear HB
         have HO_469001 := n0
         have BK461 := n1
         have BK468 := n2
         have HI0 := n3
         have HK := n4
         have HB := n5
         clear n0 n1 n2 n3 n4 n5
         refine start_ (n := 16) (S := fun w' => w'.cell? ⟨gb468,0,none⟩ = some (.int .i64 a2) ∧ w'.cell? ⟨gb468,1,none⟩ = some (u4691) ∧ w'.cell? ⟨gb468,2,none⟩ = some (.bool (t464 == 1))) (ds := [15]) #[false,false,false,false,false,false,false,false,false,false,false,false,false,false,false,false] (by kernel_rfl) rfl rfl (bC3_ BK468.out) (fun hHeld => ?_);refine with_tabW impl_Memory_channel.tab8 impl_Memory_channel.bits8 (fun HT_ HW_ => ?_)
         generalize wr.drew = w28 at HO_469001 BK461 BK468 HI0 HK HB hHeld ⊢
         refine pU_ 0 (some 50) (mk_ 16 1) ?_
         refine pU_ 2 (some 52) (mk_ 16 5) ?_
         refine pU_ 3 (some 53) (mk_ 16 13) ?_
         refine pU_ 4 (some 54) (mk_ 16 29) ?_
         refine pU_ 5 (some 55) (mk_ 16 61) ?_
         refine pU_ 6 (some 56) (mk_ 16 125) ?_
         refine pU_ 7 (some 57) (mk_ 16 253) ?_
         refine pU_ 8 (some 58) (mk_ 16 509) ?_
         refine pU_ 9 (some 59) (mk_ 16 1021) ?_
         refine pU_ 10 (some 60) (mk_ 16 2045) ?_
         refine tK3_ 1 (some 51) (mk_ 16 2047) ?_
         refine oN_ 11 (some 61) (mk_ 16 4095) (fun K hK => ?_)
         refine gO_ Try.func118 #[.pointer (some ⟨g,0,none⟩),.int .i64 (wrap64 ((wrap64 (a1 + 4)) + (Int.tmod (wrap64 (t462 + x47_2)) a2)))] ?_
         with_reducible refine (impl_Memory_last.calls g s0_0 (wrap64 ((wrap64 (a1 + 4)) + (Int.tmod (wrap64 (t462 + x47_2)) a2))) t469 w0 _ ?side1 ?side2 A26.out).mono ?_
         (case side1 => exact gI57_ HI0.out)
         (case side2 => exact gB57_ HB.out)
         rintro e w29 ⟨rfl,hi,hb,hk⟩
         refine ⟨_,rfl,?_⟩
         have n0 := aM_ (Kd.R_mono (Kd.R_keep (IsS57.apart (show IsS57 w0 _ g s0_0 from gI57_ HI0.out) (by (with_reducible repeat (first | apply rA_ | apply rN_ | apply rD_));exact HO_469001.out) (by decide)) hk (fun _ h => h.2)) (fun _ h => h.1))
         have n1 := aM_ (KeepBut.blk hk (g' := gb461) (o := .cells #[.int .i64 0,.slice none 0 0,.bool false] 94 (0,0)) (by (with_reducible repeat (first | refine bN_ ?_ _ | refine bD_ ?_ | refine bA_ ?_ _));exact BK461.out) NB461_0.out (by simp))
         have n2 := aM_ (KeepBut.blk hk (g' := gb468) (o := .cells #[.int .i64 a2,u4691,.bool (t464 == 1)] 94 (0,0)) (by (with_reducible repeat (first | refine bN_ ?_ _ | refine bD_ ?_ | refine bA_ ?_ _));exact BK468.out) NB468_0.out (by simp))
         have n3 := aM_ (KeepBut.trans (gK_ HK.out) hk (.inl rfl))
         have n4 := aM_ (hb)
         have n5 := aM_ (hi)
         clear HO_469001
         clear BK461
         clear BK468
         clear HK
         clear HB
         clear HI0
         have HO_469001 := n0
         have BK461 := n1
         have BK468 := n2
         have HK := n3
         have HB := n4
         have HI0 := n5
         clear n0 n1 n2 n3 n4 n5
         (try clear hb)
         (try clear hb2)
         (try clear hk)
         (try clear hi)
         refine hK.out _ _ (bC3_ BK468.out) (fun hHeld => ?_)
         clear hK K
         refine norm_ (a' := ?_) ?_ ?_
         rotate_left
         ·show Act.put _ (some 61) _ = _
          simp only [pt_,pn_,sI_,s0_,s1_,i64_w,i32_w]
          rfl
         refine oN_ 12 (some 62) (mk_ 16 8191) (fun K hK => ?_)
         refine value_ (w1 := ?_) (v := ?_) (by rfl) rfl ?_ ?_
         rotate_left 2
         ·go_simp
          constructor
          ·rfl
          ·rfl
         refine hK.out _ _ ⟨(blk_cell (blk_alloc BK468.out _) 0).trans rfl,(blk_cell (blk_alloc BK468.out _) 1).trans rfl,(blk_cell (blk_alloc BK468.out _) 2).trans rfl⟩ (fun hHeld => ?_)
         clear hK K
         refine norm_ (a' := ?_) ?_ ?_
         rotate_left
         ·show Act.put _ (some 62) _ = _
          simp only [pt_,pn_,sI_,s0_,s1_,i64_w,i32_w]
          rfl
         refine oN_ 13 (some 63) (mk_ 16 16383) (fun K hK => ?_)
         refine Kd.R_append_step (Kd.int .i64) w.heap.size (by rfl) (.tmp 51) (.tmp 62) 31 3 (.int .i64 0) 8 rfl Try.underlying31 info3 rfl (by decide) (by omega) u4691 x4691_2 t469 [.int .i64 t469] (fun _ => True) (fun _ => False) rfl rfl ?aP (fun _ hk => hk.elim) ?aF ?aO (Below.refl _ _) ?aS ?aL ?_
         (case aP => exact rfl)
         (case aF => exact (fun _ _ => trivial))
         (case aO => exact (by (with_reducible repeat (first | apply rA_ | apply rN_ | apply rD_));exact HO_469001.out))
         (case aS => exact (keep_size (w := w) (g := g) (row := none) (gK_ HK.out)))
         (case aL => have := LMc27.out;omega)
         intro v471 w30 ho hb hg hat
         rw [← Ny470.out] at ho
         have n0 := aM_ (blk_grown (g := gb461) (o := .cells #[.int .i64 0,.slice none 0 0,.bool false] 94 (0,0)) (by (with_reducible repeat (first | refine bN_ ?_ _ | refine bD_ ?_ | refine bA_ ?_ _));exact BK461.out) hg (Kd.R_ne HO_469001.out BK461.out (by decide)))
         have n1 := aM_ (blk_grown (g := gb468) (o := .cells #[.int .i64 a2,u4691,.bool (t464 == 1)] 94 (0,0)) (by (with_reducible repeat (first | refine bN_ ?_ _ | refine bD_ ?_ | refine bA_ ?_ _));exact BK468.out) hg (Kd.R_ne HO_469001.out BK468.out (by decide)))
         have n2 := aM_ (IsS57.grown (gI57_ HI0.out) hg (IsS57.own_ne HI0.out HO_469001.out (by decide)))
         have n3 := aM_ (below_weaken (gB57_ HB.out) HL.out hb)
         have n4 := aM_ (KeepBut.trans (gK_ HK.out) (KeepBut.of_grown hg g) (Kd.R_base2 HO_469001.out))
         have n5 := aM_ (ho)
         clear BK461
         clear BK468
         clear HI0
         clear HB
         clear HK
         clear HO_469001
         have BK461 := n0
         have BK468 := n1
         have HI0 := n2
         have HB := n3
         have HK := n4
         have HO472 := n5
         clear n0 n1 n2 n3 n4 n5
         clear ho hb hg hat
         obtain ⟨Ao31,co31,eo31⟩ := Kd.R_slice HO472.out
         (first | subst eo31 | (injection eo31 with f1_ f2_ f3_;have f4_ := f1_.symm;have f5_ := f3_.symm;clear f1_ f2_ f3_;subst f4_;subst f5_))
         refine hK.out _ _ (bC3_ BK468.out) (fun hHeld => ?_)
         clear hK K
         refine norm_ (a' := ?_) ?_ ?_
         rotate_left
         ·show Act.put _ (some 63) _ = _
          simp only [pt_,pn_,sI_,s0_,s1_,i64_w,i32_w]
          rfl
         refine pU_ 14 (some 64) (mk_ 16 32767) ?_
         refine last_ (i := 15) (N := none) #[true,true,true,true,true,true,true,true,true,true,true,true,true,true,true,true] rfl rfl (one_of HT_.out (by kernel_rfl)) (by decide) (fun K hK => ?_)
         have hs32 : w30.cell? ⟨gb468,1,none⟩ = some (u4691) := (blk_cell BK468.out 1).trans rfl
         have hfs32 := blk_frozen BK468.out 1
         have hns32_0 := NB461_468.out
         have hms32_0 := NB468_461.out
         refine skip_ (w1 := ?_) (by rfl) rfl ?_ ?_
         rotate_left
         ·go_simp
          rfl
         refine hK.out _ _ ?_
         clear hK K
         refine done_ (done_of HT_.out (by kernel_rfl)) ?_
         try go_wp2
         go_roundg k2
         case measure => have := HJ6.out;have := HK2.out;omega
         case rel => exact ⟨(wrap64 (x47_2 + 1)),(y470),(.slice Ao31 y470.length co31),(by first | rfl | (simp;done) | (simp [*];done)),H',⟨by have := HJ6.out;have := HK2.out;omega⟩,⟨by (with_reducible repeat (first | apply rA_ | apply rN_ | apply rD_));exact Kd.R_mono (Kd.R_far (p := ⟨gb468,1,none⟩) (Kd.R_types HO472.out BK468.out (by decide)) (fun _ hk => hk.2) (.slice Ao31 y470.length co31)) (fun _ hk => trivial)⟩,⟨by (with_reducible repeat (first | refine bN_ ?_ _ | refine bD_ ?_ | refine bA_ ?_ _));refine blk_far ?_ NB461_468.out _;(with_reducible repeat (first | refine bN_ ?_ _ | refine bD_ ?_ | refine bA_ ?_ _));exact BK461.out⟩,⟨by (with_reducible repeat (first | refine bN_ ?_ _ | refine bD_ ?_ | refine bA_ ?_ _));refine blk_put (cs := #[.int .i64 a2,u4691,.bool (t464 == 1)]) ?_ 1 _ rfl;(with_reducible repeat (first | refine bN_ ?_ _ | refine bD_ ?_ | refine bA_ ?_ _));exact BK468.out⟩,⟨gI57_ HI0.out⟩,⟨gK_ HK.out⟩,⟨gB57_ HB.out⟩⟩
        ·rw [if_neg c27] at H
         exact absurd H (by simp)
      ·rw [if_neg c24] at H
       have c24b0 : decide (x47_2 < t463) = false := decide_eq_false c24
       clear c24
       simp only [Option.some.injEq,Prod.mk.injEq] at H
       obtain ⟨rfl,rfl,rfl,rfl⟩ := H
       have hnb33 := NB468_461.out
       have hnc33 := NB461_468.out
       have hnb34 := NB468_0.out
       have hnc34 := NB0_468.out
       obtain ⟨hcz35_0,hcz35_1,hcz35_2,hfz35_0,hfz35_1,hfz35_2⟩ := bR3_ BK468.out
       have hnb36 := NB461_0.out
       have hnc36 := NB0_461.out
       obtain ⟨hcz37_0,hcz37_1,hcz37_2,hfz37_0,hfz37_1,hfz37_2⟩ := bR3_ BK461.out
       obtain ⟨Ao38,co38,eo38⟩ := Kd.R_slice HO_469001.out
       subst eo38
       go_wp2
       refine bodyPost_ret (results_ct rfl _ _ gb461 94 #[.int .i64 a2,.slice Ao38 x4691_2.length co38,.bool (t464 == 1)] (0,0) _ rfl (by (with_reducible repeat (first | refine bN_ ?_ _ | refine bD_ ?_ | refine bA_ ?_ _));refine blk_put (cs := #[.int .i64 a2,.slice Ao38 x4691_2.length co38,.bool false]) ?_ 2 _ rfl;refine blk_put (cs := #[.int .i64 a2,.slice none 0 0,.bool false]) ?_ 1 _ rfl;refine blk_put (cs := #[.int .i64 0,.slice none 0 0,.bool false]) ?_ 0 _ rfl;exact rW_ BK461.out) Try.underlying94 rfl (by kernel_rfl)) rfl ?_
       exact ⟨_,fR_,by (with_reducible repeat (first | apply rA_ | apply rN_ | apply rD_));exact Kd.R_mono (Kd.R_far (p := ⟨gb461,2,none⟩) (Kd.R_far (p := ⟨gb461,1,none⟩) (Kd.R_far (p := ⟨gb461,0,none⟩) (Kd.R_types HO_469001.out BK461.out (by decide)) (fun _ hk => hk.2) (.int .i64 a2)) (fun _ hk => hk.2) (.slice Ao38 x4691_2.length co38)) (fun _ hk => hk.2) (.bool (t464 == 1))) (fun _ hk => trivial),gI57_ HI0.out,gB57_ HB.out,gK_ HK.out⟩
def impl_ChanIn.f (k : Nat) (l0_0 : List (List (S170))) (l1 : List Int) (a2 : Int) : Option (Int × List Int × Bool × Bool) := (impl_Base.f k l1 a2).bind fun t475 => (if t475 < 0 then (some (0,([] : List Int),false,false)) else ((impl_MemoryOk.f k l0_0).bind fun t476 => (if t476 = true then (if 0 ≤ a2 then (if a2 < (l1.length : Int) then ((impl_Memory_channel.f k l0_0 t475 (rd l1 a2)).bind fun bt478 => (some (bt478.1,bt478.2.1,bt478.2.2.1,bt478.2.2.2))) else (none)) else (none)) else (some (0,([] : List Int),false,false)))))
set_option maxHeartbeats 8000000 in
set_option maxRecDepth 100000 in
theorem impl_ChanIn.calls (k : Nat) (A0_0 : Option Addr) (c0_0 : Nat) (l0_0 : List (List (S170))) (A1 : Option Addr) (c1 : Nat) (l1 : List Int) (a2 : Int) (r1 : Int) (r2 : List Int) (r3 : Bool) (r4 : Bool) (w : World) (hr0_0 : Kd.C (Kd.slice 170 k170) w A0_0 l0_0.length l0_0) (hc0_0 : l0_0.length ≤ c0_0) (hr1 : Kd.C (Kd.int .i64) w A1 l1.length l1) (hc1 : l1.length ≤ c1) (h : impl_ChanIn.f k l0_0 l1 a2 = some (r1,r2,r3,r4)) :
  Calls Try.prog 50 #[.agg #[.slice A0_0 l0_0.length c0_0],.slice A1 l1.length c1,.int .i64 a2] w fun e w' => ∃ v1_ : Value,e = .returned (.tuple #[.agg #[.int .i64 r1,v1_,.bool r3],.bool r4]) ∧ Kd.R (Kd.int .i64) 3 w' w.heap.size (fun _ => True) v1_ r2 ∧ Below w.heap.size w w' := by
 have hu57 := Try.underlying57
 have hu94 := Try.underlying94
 have HR0_0 := aM_ hr0_0
 have HC0_0 := aM_ hc0_0
 clear hr0_0 hc0_0
 have HR1 := aM_ hr1
 have HC1 := aM_ hc1
 clear hr1 hc1
 have HB := aM_ (Below.refl w.heap.size w)
 have H : ((impl_Base.f k l1 a2).bind fun t475 => (if t475 < 0 then (some (0,([] : List Int),false,false)) else ((impl_MemoryOk.f k l0_0).bind fun t476 => (if t476 = true then (if 0 ≤ a2 then (if a2 < (l1.length : Int) then ((impl_Memory_channel.f k l0_0 t475 (rd l1 a2)).bind fun bt478 => (some (bt478.1,bt478.2.1,bt478.2.2.1,bt478.2.2.2))) else (none)) else (none)) else (some (0,([] : List Int),false,false)))))) = some (r1,r2,r3,r4) := h
 clear h
 replace H := Option.bind_eq_some_iff.mp H
 obtain ⟨t475,A40,H⟩ := H
 replace H : (if t475 < 0 then (some (0,([] : List Int),false,false)) else ((impl_MemoryOk.f k l0_0).bind fun t476 => (if t476 = true then (if 0 ≤ a2 then (if a2 < (l1.length : Int) then ((impl_Memory_channel.f k l0_0 t475 (rd l1 a2)).bind fun bt478 => (some (bt478.1,bt478.2.1,bt478.2.2.1,bt478.2.2.2))) else (none)) else (none)) else (some (0,([] : List Int),false,false))))) = some (r1,r2,r3,r4) := H
 have A4 := aM_ A40
 clear A40
 by_cases c5 : t475 < 0
 ·rw [if_pos c5] at H
  have c5b0 : decide (t475 < 0) = true := decide_eq_true c5
  clear c5
  simp only [Option.some.injEq,Prod.mk.injEq] at H
  obtain ⟨rfl,rfl,rfl,rfl⟩ := H
  go_enter Try.func50,Try.ntmps50
  go_wp2_with (first | ((with_reducible refine gate_dst (N := 3) rfl ?_);refine bX_ 3 (cs := #[.slice A0_0 l0_0.length c0_0]) (t := 57) ?_;intro gb473 hg w6 hbox hb;have n0 := aM_ (sT_ HB.out hb);have n1 := aM_ (hbox);have n2 := aM_ (sZ_ hg HB.out);have n3 := aM_ (sZ_ hg HB.out);clear HB;have HB := n0;have BK473 := n1;have GW473 := n2;have GE473 := n3;clear n0 n1 n2 n3;clear hb hbox hg) | ((with_reducible refine gate_dst (N := 6) rfl ?_);refine bX_ 6 (cs := #[.int .i64 0,.slice none 0 0,.bool false]) (t := 94) ?_;intro gb474 hg w7 hbox hb;have n0 := aM_ (nB_ BK473.out hb);have n1 := aM_ (sT_ HB.out hb);have n2 := aM_ (hbox);have n3 := aM_ (sZ_ hg HB.out);have n4 := aM_ (sZ_ hg HB.out);have n5 := aM_ (nL_ hg BK473.out);have n6 := aM_ (nG_ hg BK473.out);clear BK473;clear HB;have BK473 := n0;have HB := n1;have BK474 := n2;have GW474 := n3;have GE474 := n4;have NB473_474 := n5;have NB474_473 := n6;clear n0 n1 n2 n3 n4 n5 n6;clear hb hbox hg) | ((with_reducible refine gate_callee (f := 47) rfl ?_);refine gL_ (some 11) Try.func47 #[.slice A1 l1.length c1,.int .i64 a2] ?_;(with_reducible refine (impl_Base.calls k _ _ l1 a2 t475 _ ?side1 ?side2 A4.out).mono ?_);(case side1 => exact cS_ (Kd.C_below HR1.out HB.out));(case side2 => exact HC1.out);rintro e w' ⟨rfl,⟨nd,rfl⟩⟩;refine ⟨_,rfl,?_⟩;(try (rw [drewN_self w7];generalize hq_ : World.drewN w7 _ = w7;have n0 : Aside0 (w7.heap[gb473]? = some (.cells #[.slice A0_0 l0_0.length c0_0] 57 (0,0))) := ⟨by rw [← hq_];exact (by (with_reducible repeat (first | refine bN_ ?_ _ | refine bD_ ?_ | refine bA_ ?_ _));exact BK473.out)⟩;have n1 : Aside0 (w7.heap[gb474]? = some (.cells #[.int .i64 0,.slice none 0 0,.bool false] 94 (0,0))) := ⟨by rw [← hq_];exact (by (with_reducible repeat (first | refine bN_ ?_ _ | refine bD_ ?_ | refine bA_ ?_ _));exact BK474.out)⟩;have n2 : Aside0 (Below w.heap.size w w7) := ⟨by rw [← hq_];exact (gB_ HB.out)⟩;clear BK473 BK474 HB hq_;have BK473 := n0;have BK474 := n1;have HB := n2;clear n0 n1 n2));have hnb8 := NB474_473.out;have hnc8 := NB473_474.out;obtain ⟨hcz9_0,hcz9_1,hcz9_2,hfz9_0,hfz9_1,hfz9_2⟩ := bR3_ BK474.out))
  refine bodyPost_ret (results_ct rfl _ _ gb474 94 #[.int .i64 0,.slice none 0 0,.bool false] (0,0) _ rfl (by (with_reducible repeat (first | refine bN_ ?_ _ | refine bD_ ?_ | refine bA_ ?_ _));refine blk_put (cs := #[.int .i64 0,.slice none 0 0,.bool false]) ?_ 2 _ rfl;refine blk_put (cs := #[.int .i64 0,.slice none 0 0,.bool false]) ?_ 1 _ rfl;refine blk_put (cs := #[.int .i64 0,.slice none 0 0,.bool false]) ?_ 0 _ rfl;exact rW_ BK474.out) Try.underlying94 rfl (by kernel_rfl)) rfl ?_
  exact ⟨_,fR_,by first | exact Kd.R_nil _ _ _ _ _ | exact Kd.N_nil _ _ _ _ _ | exact Kd.V_nil _ _ _ _ _ | exact Kd.Q_nil _ _ _ _ _ | exact Kd.S_nil _ _ _ _ _,gB_ HB.out⟩
 ·rw [if_neg c5] at H
  have c5b0 : decide (t475 < 0) = false := decide_eq_false c5
  clear c5
  replace H := Option.bind_eq_some_iff.mp H
  obtain ⟨t476,A100,H⟩ := H
  replace H : (if t476 = true then (if 0 ≤ a2 then (if a2 < (l1.length : Int) then ((impl_Memory_channel.f k l0_0 t475 (rd l1 a2)).bind fun bt478 => (some (bt478.1,bt478.2.1,bt478.2.2.1,bt478.2.2.2))) else (none)) else (none)) else (some (0,([] : List Int),false,false))) = some (r1,r2,r3,r4) := H
  have A10 := aM_ A100
  clear A100
  by_cases c11 : t476 = true
  ·subst c11
   have H1 : (if 0 ≤ a2 then (if a2 < (l1.length : Int) then ((impl_Memory_channel.f k l0_0 t475 (rd l1 a2)).bind fun bt478 => (some (bt478.1,bt478.2.1,bt478.2.2.1,bt478.2.2.2))) else (none)) else (none)) = some (r1,r2,r3,r4) := by rw [if_pos rfl] at H;exact H
   clear H
   have H := H1
   clear H1
   by_cases c12 : 0 ≤ a2
   ·rw [if_pos c12] at H
    have c12b0 : decide (0 ≤ a2) = true := decide_eq_true c12
    clear c12
    by_cases c13 : a2 < (l1.length : Int)
    ·rw [if_pos c13] at H
     have c13b0 : decide (a2 < (l1.length : Int)) = true := decide_eq_true c13
     clear c13
     replace H := Option.bind_eq_some_iff.mp H
     obtain ⟨⟨t478,t479,t482,t483⟩,A140,H⟩ := H
     replace H : (some (t478,t479,t482,t483)) = some (r1,r2,r3,r4) := H
     have A14 := aM_ A140
     clear A140
     simp only [Option.some.injEq,Prod.mk.injEq] at H
     obtain ⟨rfl,rfl,rfl,rfl⟩ := H
     go_enter Try.func50,Try.ntmps50
     go_wp2_with (first | ((with_reducible refine gate_dst (N := 3) rfl ?_);refine bX_ 3 (cs := #[.slice A0_0 l0_0.length c0_0]) (t := 57) ?_;intro gb473 hg w15 hbox hb;have n0 := aM_ (sT_ HB.out hb);have n1 := aM_ (hbox);have n2 := aM_ (sZ_ hg HB.out);have n3 := aM_ (sZ_ hg HB.out);clear HB;have HB := n0;have BK473 := n1;have GW473 := n2;have GE473 := n3;clear n0 n1 n2 n3;clear hb hbox hg) | ((with_reducible refine gate_dst (N := 6) rfl ?_);refine bX_ 6 (cs := #[.int .i64 0,.slice none 0 0,.bool false]) (t := 94) ?_;intro gb474 hg w16 hbox hb;have n0 := aM_ (nB_ BK473.out hb);have n1 := aM_ (sT_ HB.out hb);have n2 := aM_ (hbox);have n3 := aM_ (sZ_ hg HB.out);have n4 := aM_ (sZ_ hg HB.out);have n5 := aM_ (nL_ hg BK473.out);have n6 := aM_ (nG_ hg BK473.out);clear BK473;clear HB;have BK473 := n0;have HB := n1;have BK474 := n2;have GW474 := n3;have GE474 := n4;have NB473_474 := n5;have NB474_473 := n6;clear n0 n1 n2 n3 n4 n5 n6;clear hb hbox hg) | ((with_reducible refine gate_callee (f := 47) rfl ?_);refine gL_ (some 11) Try.func47 #[.slice A1 l1.length c1,.int .i64 a2] ?_;(with_reducible refine (impl_Base.calls k _ _ l1 a2 t475 _ ?side1 ?side2 A4.out).mono ?_);(case side1 => exact cS_ (Kd.C_below HR1.out HB.out));(case side2 => exact HC1.out);rintro e w' ⟨rfl,⟨nd,rfl⟩⟩;refine ⟨_,rfl,?_⟩;(try (rw [drewN_self w16];generalize hq_ : World.drewN w16 _ = w16;have n0 : Aside0 (w16.heap[gb473]? = some (.cells #[.slice A0_0 l0_0.length c0_0] 57 (0,0))) := ⟨by rw [← hq_];exact (by (with_reducible repeat (first | refine bN_ ?_ _ | refine bD_ ?_ | refine bA_ ?_ _));exact BK473.out)⟩;have n1 : Aside0 (w16.heap[gb474]? = some (.cells #[.int .i64 0,.slice none 0 0,.bool false] 94 (0,0))) := ⟨by rw [← hq_];exact (by (with_reducible repeat (first | refine bN_ ?_ _ | refine bD_ ?_ | refine bA_ ?_ _));exact BK474.out)⟩;have n2 : Aside0 (Below w.heap.size w w16) := ⟨by rw [← hq_];exact (gB_ HB.out)⟩;clear BK473 BK474 HB hq_;have BK473 := n0;have BK474 := n1;have HB := n2;clear n0 n1 n2));have hnb17 := NB473_474.out;have hnc17 := NB474_473.out;have hcz18_0 : w16.cell? ⟨gb473,0,none⟩ = some (.slice A0_0 l0_0.length c0_0) := (blk_cell BK473.out 0).trans rfl;have hfz18_0 := blk_frozen BK473.out 0) | (go_at_call 114;(with_reducible refine (impl_MemoryOk.calls k _ _ l0_0 true _ ?side1 ?side2 A10.out).mono ?_);(case side1 => exact cS_ (Kd.C_below HR0_0.out HB.out));(case side2 => exact HC0_0.out);rintro e w19 ⟨rfl,hb⟩;have n0 := aM_ (nB_ BK473.out hb);have n1 := aM_ (nB_ BK474.out hb);have n2 := aM_ (sT_ HB.out hb);clear BK473;clear BK474;clear HB;have BK473 := n0;have BK474 := n1;have HB := n2;clear n0 n1 n2;have p477 : 0 ≤ (a2 : Int) := of_decide_eq_true (by first | (with_reducible assumption) | assumption);have q477 : a2 < (l1.length : Int) := of_decide_eq_true (by first | (with_reducible assumption) | assumption);obtain ⟨ad477,e477,hx477_0⟩ := Kd.at_int HR1.out a2 p477 q477;cases e477;replace hx477_0 := cB_ HB.out hx477_0;replace p477 := eq_true p477;replace q477 := eq_true q477) | ((with_reducible refine gate_callee (f := 115) rfl ?_);refine gL_ (some 25) Try.func115 #[.pointer (some ⟨gb473,0,none⟩),.int .i64 t475,.int .i64 (rd l1 a2)] ?_;(with_reducible refine (impl_Memory_channel.calls k gb473 l0_0 t475 (rd l1 a2) t478 t479 t482 t483 w _ ?sideS ?sideB A14.out).mono ?_);(case sideS => exact ⟨A0_0,c0_0,(by (with_reducible repeat (first | refine bN_ ?_ _ | refine bD_ ?_ | refine bA_ ?_ _));exact BK473.out),GE473.out,HR0_0.out⟩);(case sideB => exact (gB_ HB.out));rintro e w20 ⟨v480,rfl,ho0,hi_,hb,hk_⟩;refine ⟨_,rfl,?_⟩;have n0 := aM_ (Kd.R_lower ho0 (below_size (gB_ HB.out)));have n2 := aM_ ((hk_.2 gb474 (blk_lt (by (with_reducible repeat (first | refine bN_ ?_ _ | refine bD_ ?_ | refine bA_ ?_ _));exact BK474.out)) (NB474_473.out) (by simp)).trans (by (with_reducible repeat (first | refine bN_ ?_ _ | refine bD_ ?_ | refine bA_ ?_ _));exact BK474.out));have n3 := aM_ hb;clear BK473;clear BK474;clear HB;have HO481 := n0;have BK474 := n2;have HB := n3;clear n0 n2 n3;(try clear hi_ hk_);(try clear ho0);obtain ⟨hcz21_0,hcz21_1,hcz21_2,hfz21_0,hfz21_1,hfz21_2⟩ := bR3_ BK474.out;obtain ⟨Ao22,co22,eo22⟩ := Kd.R_slice HO481.out;subst eo22))
     refine bodyPost_ret (results_ct rfl _ _ gb474 94 #[.int .i64 t478,.slice Ao22 t479.length co22,.bool t482] (0,0) _ rfl (by (with_reducible repeat (first | refine bN_ ?_ _ | refine bD_ ?_ | refine bA_ ?_ _));refine blk_put (cs := #[.int .i64 t478,.slice Ao22 t479.length co22,.bool false]) ?_ 2 _ rfl;refine blk_put (cs := #[.int .i64 t478,.slice none 0 0,.bool false]) ?_ 1 _ rfl;refine blk_put (cs := #[.int .i64 0,.slice none 0 0,.bool false]) ?_ 0 _ rfl;exact rW_ BK474.out) Try.underlying94 rfl (by kernel_rfl)) rfl ?_
     exact ⟨_,fR_,by (with_reducible repeat (first | apply rA_ | apply rN_ | apply rD_));exact Kd.R_mono (Kd.R_far (p := ⟨gb474,2,none⟩) (Kd.R_far (p := ⟨gb474,1,none⟩) (Kd.R_far (p := ⟨gb474,0,none⟩) (Kd.R_types HO481.out BK474.out (by decide)) (fun _ hk => hk.2) (.int .i64 t478)) (fun _ hk => hk.2) (.slice Ao22 t479.length co22)) (fun _ hk => hk.2) (.bool t482)) (fun _ hk => trivial),gB_ HB.out⟩
    ·rw [if_neg c13] at H
     exact absurd H (by simp)
   ·rw [if_neg c12] at H
    exact absurd H (by simp)
  ·replace c11 := Bool.eq_false_iff.mpr c11
   subst c11
   have H1 : (some (0,([] : List Int),false,false)) = some (r1,r2,r3,r4) := by rw [if_neg (show ¬ (false = true) by decide)] at H;exact H
   clear H
   have H := H1
   clear H1
   simp only [Option.some.injEq,Prod.mk.injEq] at H
   obtain ⟨rfl,rfl,rfl,rfl⟩ := H
   go_enter Try.func50,Try.ntmps50
   go_wp2_with (first | ((with_reducible refine gate_dst (N := 3) rfl ?_);refine bX_ 3 (cs := #[.slice A0_0 l0_0.length c0_0]) (t := 57) ?_;intro gb473 hg w23 hbox hb;have n0 := aM_ (sT_ HB.out hb);have n1 := aM_ (hbox);have n2 := aM_ (sZ_ hg HB.out);have n3 := aM_ (sZ_ hg HB.out);clear HB;have HB := n0;have BK473 := n1;have GW473 := n2;have GE473 := n3;clear n0 n1 n2 n3;clear hb hbox hg) | ((with_reducible refine gate_dst (N := 6) rfl ?_);refine bX_ 6 (cs := #[.int .i64 0,.slice none 0 0,.bool false]) (t := 94) ?_;intro gb474 hg w24 hbox hb;have n0 := aM_ (nB_ BK473.out hb);have n1 := aM_ (sT_ HB.out hb);have n2 := aM_ (hbox);have n3 := aM_ (sZ_ hg HB.out);have n4 := aM_ (sZ_ hg HB.out);have n5 := aM_ (nL_ hg BK473.out);have n6 := aM_ (nG_ hg BK473.out);clear BK473;clear HB;have BK473 := n0;have HB := n1;have BK474 := n2;have GW474 := n3;have GE474 := n4;have NB473_474 := n5;have NB474_473 := n6;clear n0 n1 n2 n3 n4 n5 n6;clear hb hbox hg) | ((with_reducible refine gate_callee (f := 47) rfl ?_);refine gL_ (some 11) Try.func47 #[.slice A1 l1.length c1,.int .i64 a2] ?_;(with_reducible refine (impl_Base.calls k _ _ l1 a2 t475 _ ?side1 ?side2 A4.out).mono ?_);(case side1 => exact cS_ (Kd.C_below HR1.out HB.out));(case side2 => exact HC1.out);rintro e w' ⟨rfl,⟨nd,rfl⟩⟩;refine ⟨_,rfl,?_⟩;(try (rw [drewN_self w24];generalize hq_ : World.drewN w24 _ = w24;have n0 : Aside0 (w24.heap[gb473]? = some (.cells #[.slice A0_0 l0_0.length c0_0] 57 (0,0))) := ⟨by rw [← hq_];exact (by (with_reducible repeat (first | refine bN_ ?_ _ | refine bD_ ?_ | refine bA_ ?_ _));exact BK473.out)⟩;have n1 : Aside0 (w24.heap[gb474]? = some (.cells #[.int .i64 0,.slice none 0 0,.bool false] 94 (0,0))) := ⟨by rw [← hq_];exact (by (with_reducible repeat (first | refine bN_ ?_ _ | refine bD_ ?_ | refine bA_ ?_ _));exact BK474.out)⟩;have n2 : Aside0 (Below w.heap.size w w24) := ⟨by rw [← hq_];exact (gB_ HB.out)⟩;clear BK473 BK474 HB hq_;have BK473 := n0;have BK474 := n1;have HB := n2;clear n0 n1 n2));have hnb25 := NB473_474.out;have hnc25 := NB474_473.out;have hcz26_0 : w24.cell? ⟨gb473,0,none⟩ = some (.slice A0_0 l0_0.length c0_0) := (blk_cell BK473.out 0).trans rfl;have hfz26_0 := blk_frozen BK473.out 0) | (go_at_call 114;(with_reducible refine (impl_MemoryOk.calls k _ _ l0_0 false _ ?side1 ?side2 A10.out).mono ?_);(case side1 => exact cS_ (Kd.C_below HR0_0.out HB.out));(case side2 => exact HC0_0.out);rintro e w27 ⟨rfl,hb⟩;have n0 := aM_ (nB_ BK473.out hb);have n1 := aM_ (nB_ BK474.out hb);have n2 := aM_ (sT_ HB.out hb);clear BK473;clear BK474;clear HB;have BK473 := n0;have BK474 := n1;have HB := n2;clear n0 n1 n2;obtain ⟨hcz28_0,hcz28_1,hcz28_2,hfz28_0,hfz28_1,hfz28_2⟩ := bR3_ BK474.out))
   refine bodyPost_ret (results_ct rfl _ _ gb474 94 #[.int .i64 0,.slice none 0 0,.bool false] (0,0) _ rfl (by (with_reducible repeat (first | refine bN_ ?_ _ | refine bD_ ?_ | refine bA_ ?_ _));refine blk_put (cs := #[.int .i64 0,.slice none 0 0,.bool false]) ?_ 2 _ rfl;refine blk_put (cs := #[.int .i64 0,.slice none 0 0,.bool false]) ?_ 1 _ rfl;refine blk_put (cs := #[.int .i64 0,.slice none 0 0,.bool false]) ?_ 0 _ rfl;exact rW_ BK474.out) Try.underlying94 rfl (by kernel_rfl)) rfl ?_
   exact ⟨_,fR_,by first | exact Kd.R_nil _ _ _ _ _ | exact Kd.N_nil _ _ _ _ _ | exact Kd.V_nil _ _ _ _ _ | exact Kd.Q_nil _ _ _ _ _ | exact Kd.S_nil _ _ _ _ _,gB_ HB.out⟩
def impl_Locked.f (k : Nat) (l0_0 : List (List (S170))) (l1 : List Int) (a2 : Int) : Option (Bool) := (impl_Base.f k l1 a2).bind fun t485 => (if t485 ≥ 0 then ((impl_MemoryOk.f k l0_0).bind fun t486 => (if t486 = true then ((impl_Memory_last.f l0_0 t485).bind fun t487 => (some (t487 != 0))) else (some false))) else (some false))
set_option maxHeartbeats 8000000 in
set_option maxRecDepth 100000 in
theorem impl_Locked.calls (k : Nat) (A0_0 : Option Addr) (c0_0 : Nat) (l0_0 : List (List (S170))) (A1 : Option Addr) (c1 : Nat) (l1 : List Int) (a2 : Int) (r : Bool) (w : World) (hr0_0 : Kd.C (Kd.slice 170 k170) w A0_0 l0_0.length l0_0) (hc0_0 : l0_0.length ≤ c0_0) (hr1 : Kd.C (Kd.int .i64) w A1 l1.length l1) (hc1 : l1.length ≤ c1) (h : impl_Locked.f k l0_0 l1 a2 = some r) :
  Calls Try.prog 52 #[.agg #[.slice A0_0 l0_0.length c0_0],.slice A1 l1.length c1,.int .i64 a2] w fun e w' => e = .returned (.bool r) ∧ Below w.heap.size w w' := by
 have hu57 := Try.underlying57
 have HR0_0 := aM_ hr0_0
 have HC0_0 := aM_ hc0_0
 clear hr0_0 hc0_0
 have HR1 := aM_ hr1
 have HC1 := aM_ hc1
 clear hr1 hc1
 have HB := aM_ (Below.refl w.heap.size w)
 have H : ((impl_Base.f k l1 a2).bind fun t485 => (if t485 ≥ 0 then ((impl_MemoryOk.f k l0_0).bind fun t486 => (if t486 = true then ((impl_Memory_last.f l0_0 t485).bind fun t487 => (some (t487 != 0))) else (some false))) else (some false))) = some r := h
 clear h
 replace H := Option.bind_eq_some_iff.mp H
 obtain ⟨t485,A40,H⟩ := H
 replace H : (if t485 ≥ 0 then ((impl_MemoryOk.f k l0_0).bind fun t486 => (if t486 = true then ((impl_Memory_last.f l0_0 t485).bind fun t487 => (some (t487 != 0))) else (some false))) else (some false)) = some r := H
 have A4 := aM_ A40
 clear A40
 by_cases c5 : t485 ≥ 0
 ·rw [if_pos c5] at H
  have c5b0 : decide (0 ≤ t485) = true := decide_eq_true c5
  clear c5
  replace H := Option.bind_eq_some_iff.mp H
  obtain ⟨t486,A60,H⟩ := H
  replace H : (if t486 = true then ((impl_Memory_last.f l0_0 t485).bind fun t487 => (some (t487 != 0))) else (some false)) = some r := H
  have A6 := aM_ A60
  clear A60
  by_cases c7 : t486 = true
  ·subst c7
   have H1 : ((impl_Memory_last.f l0_0 t485).bind fun t487 => (some (t487 != 0))) = some r := by rw [if_pos rfl] at H;exact H
   clear H
   have H := H1
   clear H1
   replace H := Option.bind_eq_some_iff.mp H
   obtain ⟨t487,A80,H⟩ := H
   replace H : (some (t487 != 0)) = some r := H
   have A8 := aM_ A80
   clear A80
   obtain rfl := Option.some.inj H
   go_enter Try.func52,Try.ntmps52
   go_wp2_with (first | ((with_reducible refine gate_dst (N := 3) rfl ?_);refine bX_ 3 (cs := #[.slice A0_0 l0_0.length c0_0]) (t := 57) ?_;intro gb484 hg w9 hbox hb;have n0 := aM_ (sT_ HB.out hb);have n1 := aM_ (hbox);have n2 := aM_ (sZ_ hg HB.out);have n3 := aM_ (sZ_ hg HB.out);clear HB;have HB := n0;have BK484 := n1;have GW484 := n2;have GE484 := n3;clear n0 n1 n2 n3;clear hb hbox hg) | ((with_reducible refine gate_callee (f := 47) rfl ?_);refine gL_ (some 10) Try.func47 #[.slice A1 l1.length c1,.int .i64 a2] ?_;(with_reducible refine (impl_Base.calls k _ _ l1 a2 t485 _ ?side1 ?side2 A4.out).mono ?_);(case side1 => exact cS_ (Kd.C_below HR1.out HB.out));(case side2 => exact HC1.out);rintro e w' ⟨rfl,⟨nd,rfl⟩⟩;refine ⟨_,rfl,?_⟩;have hcz10_0 : w9.cell? ⟨gb484,0,none⟩ = some (.slice A0_0 l0_0.length c0_0) := (blk_cell BK484.out 0).trans rfl;have hfz10_0 := blk_frozen BK484.out 0) | (go_at_call 114;(with_reducible refine (impl_MemoryOk.calls k _ _ l0_0 true _ ?side1 ?side2 A6.out).mono ?_);(case side1 => exact cS_ (Kd.C_below HR0_0.out (gB_ HB.out)));(case side2 => exact HC0_0.out);rintro e w11 ⟨rfl,hb⟩;have n0 := aM_ (nB_ BK484.out hb);have n1 := aM_ (sT_ HB.out hb);clear BK484;clear HB;have BK484 := n0;have HB := n1;clear n0 n1) | (go_at_call 118;(with_reducible refine (impl_Memory_last.calls gb484 l0_0 t485 t487 w _ ?side1 ?side2 A8.out).mono ?_);(case side1 => exact ⟨A0_0,c0_0,(by (with_reducible repeat (first | refine bN_ ?_ _ | refine bD_ ?_ | refine bA_ ?_ _));exact BK484.out),GE484.out,HR0_0.out⟩);(case side2 => exact (gB_ HB.out));rintro e w12 ⟨rfl,hi_,hb,hk_⟩;have n1 := aM_ hb;clear BK484;clear HB;have HB := n1;clear n1;clear hb hi_ hk_))
   go_ret
   exact fI_ HB.out
  ·replace c7 := Bool.eq_false_iff.mpr c7
   subst c7
   have H1 : (some false) = some r := by rw [if_neg (show ¬ (false = true) by decide)] at H;exact H
   clear H
   have H := H1
   clear H1
   obtain rfl := Option.some.inj H
   go_enter Try.func52,Try.ntmps52
   go_wp2_with (first | ((with_reducible refine gate_dst (N := 3) rfl ?_);refine bX_ 3 (cs := #[.slice A0_0 l0_0.length c0_0]) (t := 57) ?_;intro gb484 hg w13 hbox hb;have n0 := aM_ (sT_ HB.out hb);have n1 := aM_ (hbox);have n2 := aM_ (sZ_ hg HB.out);have n3 := aM_ (sZ_ hg HB.out);clear HB;have HB := n0;have BK484 := n1;have GW484 := n2;have GE484 := n3;clear n0 n1 n2 n3;clear hb hbox hg) | ((with_reducible refine gate_callee (f := 47) rfl ?_);refine gL_ (some 10) Try.func47 #[.slice A1 l1.length c1,.int .i64 a2] ?_;(with_reducible refine (impl_Base.calls k _ _ l1 a2 t485 _ ?side1 ?side2 A4.out).mono ?_);(case side1 => exact cS_ (Kd.C_below HR1.out HB.out));(case side2 => exact HC1.out);rintro e w' ⟨rfl,⟨nd,rfl⟩⟩;refine ⟨_,rfl,?_⟩;have hcz14_0 : w13.cell? ⟨gb484,0,none⟩ = some (.slice A0_0 l0_0.length c0_0) := (blk_cell BK484.out 0).trans rfl;have hfz14_0 := blk_frozen BK484.out 0) | (go_at_call 114;(with_reducible refine (impl_MemoryOk.calls k _ _ l0_0 false _ ?side1 ?side2 A6.out).mono ?_);(case side1 => exact cS_ (Kd.C_below HR0_0.out (gB_ HB.out)));(case side2 => exact HC0_0.out);rintro e w15 ⟨rfl,hb⟩;have n0 := aM_ (nB_ BK484.out hb);have n1 := aM_ (sT_ HB.out hb);clear BK484;clear HB;have BK484 := n0;have HB := n1;clear n0 n1))
   go_ret
   exact fI_ HB.out
 ·rw [if_neg c5] at H
  have c5b0 : decide (0 ≤ t485) = false := decide_eq_false c5
  clear c5
  obtain rfl := Option.some.inj H
  go_enter Try.func52,Try.ntmps52
  go_wp2_with (first | ((with_reducible refine gate_dst (N := 3) rfl ?_);refine bX_ 3 (cs := #[.slice A0_0 l0_0.length c0_0]) (t := 57) ?_;intro gb484 hg w16 hbox hb;have n0 := aM_ (sT_ HB.out hb);have n1 := aM_ (hbox);have n2 := aM_ (sZ_ hg HB.out);have n3 := aM_ (sZ_ hg HB.out);clear HB;have HB := n0;have BK484 := n1;have GW484 := n2;have GE484 := n3;clear n0 n1 n2 n3;clear hb hbox hg) | ((with_reducible refine gate_callee (f := 47) rfl ?_);refine gL_ (some 10) Try.func47 #[.slice A1 l1.length c1,.int .i64 a2] ?_;(with_reducible refine (impl_Base.calls k _ _ l1 a2 t485 _ ?side1 ?side2 A4.out).mono ?_);(case side1 => exact cS_ (Kd.C_below HR1.out HB.out));(case side2 => exact HC1.out);rintro e w' ⟨rfl,⟨nd,rfl⟩⟩;refine ⟨_,rfl,?_⟩))
  go_ret
  exact fI_ HB.out
def slices_Equal_int_int.l0 : Nat → List Int → List Int → Int → Int → Option (Bool)
  | 0,_,_,_,_ => none
  | k + 1,x0,x1,x12,x13 => if x13 < x12 then (if 0 ≤ x13 then (if x13 < (x0.length : Int) then (if x13 < (x1.length : Int) then (if (rd x0 x13) = (rd x1 x13) then (slices_Equal_int_int.l0 k x0 x1 x12 (wrap64 (x13 + 1))) else (some false)) else (none)) else (none)) else (none)) else (some true)
def slices_Equal_int_int.f (k : Nat) (l0 : List Int) (l1 : List Int) : Option (Bool) := if (l0.length : Int) = (l1.length : Int) then (slices_Equal_int_int.l0 k l0 l1 (l0.length : Int) 0) else (some false)
set_option maxHeartbeats 8000000 in
set_option maxRecDepth 100000 in
theorem slices_Equal_int_int.calls (k : Nat) (A0 : Option Addr) (c0 : Nat) (l0 : List Int) (A1 : Option Addr) (c1 : Nat) (l1 : List Int) (r : Bool) (w : World) (hr0 : Kd.C (Kd.int .i64) w A0 l0.length l0) (hc0 : l0.length ≤ c0) (hr1 : Kd.C (Kd.int .i64) w A1 l1.length l1) (hc1 : l1.length ≤ c1) (h : slices_Equal_int_int.f k l0 l1 = some r) :
  Calls Try.prog 107 #[.slice A0 l0.length c0,.slice A1 l1.length c1] w fun e w' => e = .returned (.bool r) ∧ Drawn0 w w' := by
 have HR0 := aM_ hr0
 have HC0 := aM_ hc0
 clear hr0 hc0
 have HR1 := aM_ hr1
 have HC1 := aM_ hc1
 clear hr1 hc1
 have H : (if (l0.length : Int) = (l1.length : Int) then (slices_Equal_int_int.l0 k l0 l1 (l0.length : Int) 0) else (some false)) = some r := h
 clear h
 by_cases c3 : (l0.length : Int) = (l1.length : Int)
 ·rw [if_pos c3] at H
  have c3b0 : ((l0.length : Int) == (l1.length : Int)) = true := beq_iff_eq.mpr c3
  have c3b1 : ((l0.length : Int) != (l1.length : Int)) = false := bne_eq_false_iff_eq.mpr c3
  have c3b2 : (l0.length == l1.length) = true := by first | simpa using c3 | (simp at c3 ⊢;omega)
  clear c3
  have H' := aM_ H
  clear H
  go_enter Try.func107,Try.ntmps107
  go_wp2
  repeat (go_quiet (fail);try go_wp2)
  go_loopg [13] k (fun kq v13 w' => ∃ (x13_1 : Int),v13 = .int .i64 x13_1 ∧ Aside0 (slices_Equal_int_int.l0 kq l0 l1 (l0.length : Int) x13_1 = some r) ∧ Aside0 (kq ≤ k) ∧ Drawn0 w w')
  case atStart => exact ⟨(0),(by first | rfl | (simp;done) | (simp [*];done)),H',⟨Nat.le_refl _⟩,by repeat (first | exact Drawn0.refl _ | apply Drawn0.step)⟩
  case round =>
   clear H'
   try clear c1
   try clear p2
   try clear c3
   try clear c3b0
   try clear c3b1
   try clear c3b2
   obtain ⟨x13_1,rfl,HA,HK1,⟨m1,rfl⟩⟩ := hrel
   cases gk with
   | zero => exact absurd HA.out (by simp [slices_Equal_int_int.l0])
   | succ k1 =>
    have H := HA.out
    clear HA
    simp only [slices_Equal_int_int.l0] at H
    by_cases c4 : x13_1 < (l0.length : Int)
    ·rw [if_pos c4] at H
     have c4b0 : decide (x13_1 < (l0.length : Int)) = true := decide_eq_true c4
     clear c4
     by_cases c5 : 0 ≤ x13_1
     ·rw [if_pos c5] at H
      have c5b0 : decide (0 ≤ x13_1) = true := decide_eq_true c5
      clear c5
      by_cases c6 : x13_1 < (l0.length : Int)
      ·rw [if_pos c6] at H
       have c6b0 : decide (x13_1 < (l0.length : Int)) = true := decide_eq_true c6
       clear c6
       by_cases c7 : x13_1 < (l1.length : Int)
       ·rw [if_pos c7] at H
        have c7b0 : decide (x13_1 < (l1.length : Int)) = true := decide_eq_true c7
        clear c7
        by_cases c8 : (rd l0 x13_1) = (rd l1 x13_1)
        ·rw [if_pos c8] at H
         have c8b0 : ((rd l0 x13_1) == (rd l1 x13_1)) = true := beq_iff_eq.mpr c8
         have c8b1 : ((rd l0 x13_1) != (rd l1 x13_1)) = false := bne_eq_false_iff_eq.mpr c8
         clear c8
         have H' := aM_ H
         clear H
         have p488 : 0 ≤ (x13_1 : Int) := of_decide_eq_true (by first | (with_reducible assumption) | assumption)
         have q488 : x13_1 < (l0.length : Int) := of_decide_eq_true (by first | (with_reducible assumption) | assumption)
         obtain ⟨ad488,e488,hx488_0⟩ := Kd.at_int HR0.out x13_1 p488 q488
         cases e488
         replace p488 := eq_true p488
         replace q488 := eq_true q488
         have p489 : 0 ≤ (x13_1 : Int) := of_decide_eq_true (by first | (with_reducible assumption) | assumption)
         have q489 : x13_1 < (l1.length : Int) := of_decide_eq_true (by first | (with_reducible assumption) | assumption)
         obtain ⟨ad489,e489,hx489_0⟩ := Kd.at_int HR1.out x13_1 p489 q489
         cases e489
         replace p489 := eq_true p489
         replace q489 := eq_true q489
         go_wp2
         repeat (go_quiet (fail);try go_wp2)
         go_roundg k1
         case measure => have := HK1.out;omega
         case rel => exact ⟨(wrap64 (x13_1 + 1)),(by first | rfl | (simp;done) | (simp [*];done)),H',⟨by have := HK1.out;omega⟩,by repeat (first | exact Drawn0.refl _ | apply Drawn0.step)⟩
        ·rw [if_neg c8] at H
         have c8b0 : ((rd l0 x13_1) == (rd l1 x13_1)) = false := beq_eq_false_iff_ne.mpr c8
         have c8b1 : ((rd l0 x13_1) != (rd l1 x13_1)) = true := bne_iff_ne.mpr c8
         obtain rfl := Option.some.inj H
         have p488 : 0 ≤ (x13_1 : Int) := of_decide_eq_true (by first | (with_reducible assumption) | assumption)
         have q488 : x13_1 < (l0.length : Int) := of_decide_eq_true (by first | (with_reducible assumption) | assumption)
         obtain ⟨ad488,e488,hx488_0⟩ := Kd.at_int HR0.out x13_1 p488 q488
         cases e488
         replace p488 := eq_true p488
         replace q488 := eq_true q488
         have p489 : 0 ≤ (x13_1 : Int) := of_decide_eq_true (by first | (with_reducible assumption) | assumption)
         have q489 : x13_1 < (l1.length : Int) := of_decide_eq_true (by first | (with_reducible assumption) | assumption)
         obtain ⟨ad489,e489,hx489_0⟩ := Kd.at_int HR1.out x13_1 p489 q489
         cases e489
         replace p489 := eq_true p489
         replace q489 := eq_true q489
         go_wp2
         repeat (go_quiet (fail);try go_wp2)
         go_ret
         exact ⟨by first | rfl | (simp;done) | (simp [*];done),by repeat (first | exact Drawn0.refl _ | apply Drawn0.step)⟩
       ·rw [if_neg c7] at H
        exact absurd H (by simp)
      ·rw [if_neg c6] at H
       exact absurd H (by simp)
     ·rw [if_neg c5] at H
      exact absurd H (by simp)
    ·rw [if_neg c4] at H
     have c4b0 : decide (x13_1 < (l0.length : Int)) = false := decide_eq_false c4
     clear c4
     obtain rfl := Option.some.inj H
     go_wp2
     repeat (go_quiet (fail);try go_wp2)
     go_ret
     exact ⟨by first | rfl | (simp;done) | (simp [*];done),by repeat (first | exact Drawn0.refl _ | apply Drawn0.step)⟩
 ·rw [if_neg c3] at H
  have c3b0 : ((l0.length : Int) == (l1.length : Int)) = false := beq_eq_false_iff_ne.mpr c3
  have c3b1 : ((l0.length : Int) != (l1.length : Int)) = true := bne_iff_ne.mpr c3
  have c3b2 : (l0.length == l1.length) = false := by first | simpa using c3 | (simp at c3 ⊢;omega)
  obtain rfl := Option.some.inj H
  go_enter Try.func107,Try.ntmps107
  go_wp2
  repeat (go_quiet (fail);try go_wp2)
  go_ret
  exact ⟨by first | rfl | (simp;done) | (simp [*];done),by repeat (first | exact Drawn0.refl _ | apply Drawn0.step)⟩
end Go.Proofs.Ytobachfngmpeiaa.PFnExactChanSame
