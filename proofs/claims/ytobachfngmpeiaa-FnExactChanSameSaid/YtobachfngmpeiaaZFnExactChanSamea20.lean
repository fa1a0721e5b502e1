/- A part of the proof that the law FnExactChanSame holds for every input: the words, functions and walks that its row needs, without a condition of their own. -/
import Derived.Test.YtobachfngmpeiaaProg
import Derived.Laws.StructEq
import Derived.Test.YtobachfngmpeiaaZFnExactChanSamea0
import Derived.Test.YtobachfngmpeiaaZFnExactChanSamea1
import Derived.Test.YtobachfngmpeiaaZFnExactChanSamea2
import Derived.Test.YtobachfngmpeiaaZFnExactChanSamea3
import Derived.Test.YtobachfngmpeiaaZFnExactChanSamea6
import Derived.Test.YtobachfngmpeiaaZFnExactChanSamea7
import Derived.Test.YtobachfngmpeiaaZFnExactChanSamea11
import Derived.Test.YtobachfngmpeiaaZFnExactChanSamea12
import Derived.Test.YtobachfngmpeiaaZFnExactChanSamea13
import Derived.Test.YtobachfngmpeiaaZFnExactChanSamea16
import Derived.Test.YtobachfngmpeiaaZFnExactChanSamea17
import Derived.Test.YtobachfngmpeiaaZFnExactChanSamea19
import Derived.Test.YtobachfngmpeiaaZFnExactChanSames
namespace Go.Proofs.Ytobachfngmpeiaa.PFnExactChanSame
open Go.RowKit Go.Proofs.YtobachfngmpeiaaW.PrintWords Go.Proofs.YtobachfngmpeiaaW.PrintLast Go.Proofs.YtobachfngmpeiaaW.PrintMore
attribute [local go_sem] max2_int min2_int max_two min_two max_three min_three max_four min_four   -- for this text's walks alone
set_option linter.unusedVariables false
set_option linter.unusedSimpArgs false
def impl_ChanSame.j0 : Nat → Int → Bool → List Int → List (List (S192)) → List (List (S175)) → List (S123) → List (List (S170)) → List (S35) → List (S107) → List (S94) → List (S35) → Option (Bool)
  | 0,_,_,_,_,_,_,_,_,_,_,_ => none
  | k + 1,x3,x25,x491000,x491001,x492000,x492001,x492002,x492003,x493000,x493001,x493002 => if x25 = true then (some false) else ((impl_Locked.f k x492002 x491000 x3).bind fun t494 => (if t494 = true then (some true) else ((impl_ChanIn.f k x492002 x491000 x3).bind fun bt495 => (if 0 ≤ x3 then (if x3 < (x493001.length : Int) then (if bt495.2.2.2 = true then (if bt495.1 = ((rd_T94 x493001 x3).f0) then ((slices_Equal_int_int.f k bt495.2.1 ((rd_T94 x493001 x3).f1)).bind fun t504 => (if t504 = true then (some (bt495.2.2.1 == ((rd_T94 x493001 x3).f2))) else (some false))) else (some false)) else (some false)) else (none)) else (none)))))
def impl_ChanSame.f (k : Nat) (l0_0 : List Int) (l0_1 : List (List (S192))) (l1_0 : List (List (S175))) (l1_1 : List (S123)) (l1_2 : List (List (S170))) (l1_3 : List (S35)) (l2_0 : List (S107)) (l2_1 : List (S94)) (l2_2 : List (S35)) (a3 : Int) : Option (Bool) := (impl_within.f a3 0 (wrap64 ((l0_0.length : Int) - 1))).bind fun t493 => (if t493 = true then (impl_ChanSame.j0 k a3 (decide (a3 ≥ (l2_1.length : Int))) l0_0 l0_1 l1_0 l1_1 l1_2 l1_3 l2_0 l2_1 l2_2) else (impl_ChanSame.j0 k a3 true l0_0 l0_1 l1_0 l1_1 l1_2 l1_3 l2_0 l2_1 l2_2))
set_option maxHeartbeats 8000000 in
set_option maxRecDepth 100000 in
theorem impl_ChanSame.calls (k : Nat) (A0_0 : Option Addr) (c0_0 : Nat) (l0_0 : List Int) (A0_1 : Option Addr) (c0_1 : Nat) (l0_1 : List (List (S192))) (A1_0 : Option Addr) (c1_0 : Nat) (l1_0 : List (List (S175))) (A1_1 : Option Addr) (c1_1 : Nat) (l1_1 : List (S123)) (A1_2 : Option Addr) (c1_2 : Nat) (l1_2 : List (List (S170))) (A1_3 : Option Addr) (c1_3 : Nat) (l1_3 : List (S35)) (A2_0 : Option Addr) (c2_0 : Nat) (l2_0 : List (S107)) (A2_1 : Option Addr) (c2_1 : Nat) (l2_1 : List (S94)) (A2_2 : Option Addr) (c2_2 : Nat) (l2_2 : List (S35)) (a3 : Int) (r : Bool) (w : World) (hr0_0 : Kd.C (Kd.int .i64) w A0_0 l0_0.length l0_0) (hc0_0 : l0_0.length ≤ c0_0) (hr0_1 : Kd.C (Kd.slice 192 k192) w A0_1 l0_1.length l0_1) (hc0_1 : l0_1.length ≤ c0_1) (hr1_0 : Kd.C (Kd.slice 175 k175) w A1_0 l1_0.length l1_0) (hc1_0 : l1_0.length ≤ c1_0) (hr1_1 : Kd.C k123 w A1_1 l1_1.length l1_1) (hc1_1 : l1_1.length ≤ c1_1) (hr1_2 : Kd.C (Kd.slice 170 k170) w A1_2 l1_2.length l1_2) (hc1_2 : l1_2.length ≤ c1_2) (hr1_3 : Kd.C k35 w A1_3 l1_3.length l1_3) (hc1_3 : l1_3.length ≤ c1_3) (hr2_0 : Kd.C k107 w A2_0 l2_0.length l2_0) (hc2_0 : l2_0.length ≤ c2_0) (hr2_1 : Kd.C k94 w A2_1 l2_1.length l2_1) (hc2_1 : l2_1.length ≤ c2_1) (hr2_2 : Kd.C k35 w A2_2 l2_2.length l2_2) (hc2_2 : l2_2.length ≤ c2_2) (h : impl_ChanSame.f k l0_0 l0_1 l1_0 l1_1 l1_2 l1_3 l2_0 l2_1 l2_2 a3 = some r) :
  Calls Try.prog 45 #[.agg #[.slice A0_0 l0_0.length c0_0,.slice A0_1 l0_1.length c0_1],.agg #[.slice A1_0 l1_0.length c1_0,.slice A1_1 l1_1.length c1_1,.slice A1_2 l1_2.length c1_2,.slice A1_3 l1_3.length c1_3],.agg #[.slice A2_0 l2_0.length c2_0,.slice A2_1 l2_1.length c2_1,.slice A2_2 l2_2.length c2_2],.int .i64 a3] w fun e w' => e = .returned (.bool r) ∧ Below w.heap.size w w' := by
 have hu44 := Try.underlying44
 have hu59 := Try.underlying59
 have hu28 := Try.underlying28
 have hu57 := Try.underlying57
 have hu94 := Try.underlying94
 have HR0_0 := aM_ hr0_0
 have HC0_0 := aM_ hc0_0
 clear hr0_0 hc0_0
 have HR0_1 := aM_ hr0_1
 have HC0_1 := aM_ hc0_1
 clear hr0_1 hc0_1
 have HR1_0 := aM_ hr1_0
 have HC1_0 := aM_ hc1_0
 clear hr1_0 hc1_0
 have HR1_1 := aM_ hr1_1
 have HC1_1 := aM_ hc1_1
 clear hr1_1 hc1_1
 have HR1_2 := aM_ hr1_2
 have HC1_2 := aM_ hc1_2
 clear hr1_2 hc1_2
 have HR1_3 := aM_ hr1_3
 have HC1_3 := aM_ hc1_3
 clear hr1_3 hc1_3
 have HR2_0 := aM_ hr2_0
 have HC2_0 := aM_ hc2_0
 clear hr2_0 hc2_0
 have HR2_1 := aM_ hr2_1
 have HC2_1 := aM_ hc2_1
 clear hr2_1 hc2_1
 have HR2_2 := aM_ hr2_2
 have HC2_2 := aM_ hc2_2
 clear hr2_2 hc2_2
 have HB := aM_ (Below.refl w.heap.size w)
 have H : ((impl_within.f a3 0 (wrap64 ((l0_0.length : Int) - 1))).bind fun t493 => (if t493 = true then (impl_ChanSame.j0 k a3 (decide (a3 ≥ (l2_1.length : Int))) l0_0 l0_1 l1_0 l1_1 l1_2 l1_3 l2_0 l2_1 l2_2) else (impl_ChanSame.j0 k a3 true l0_0 l0_1 l1_0 l1_1 l1_2 l1_3 l2_0 l2_1 l2_2))) = some r := h
 clear h
 have HC5 := aM_ H
 clear H
 go_enter Try.func45,Try.ntmps45
 go_upto_region 1 with (first | ((with_reducible refine gate_dst (N := 4) rfl ?_);(try (refine gate_guard (by rfl) ?_;dsimp only));refine bX_ 4 (cs := #[.slice A0_0 l0_0.length c0_0,.slice A0_1 l0_1.length c0_1]) (t := 44) ?_;intro gb490 hg w6 hbox hb;have n0 := aM_ (sT_ HB.out hb);have n1 := aM_ (hbox);have n2 := aM_ (sZ_ hg HB.out);have n3 := aM_ (sZ_ hg HB.out);clear HB;have HB := n0;have BK490 := n1;have GW490 := n2;have GE490 := n3;clear n0 n1 n2 n3;clear hb hbox hg) | ((with_reducible refine gate_dst (N := 5) rfl ?_);(try (refine gate_guard (by rfl) ?_;dsimp only));refine bX_ 5 (cs := #[.slice A1_0 l1_0.length c1_0,.slice A1_1 l1_1.length c1_1,.slice A1_2 l1_2.length c1_2,.slice A1_3 l1_3.length c1_3]) (t := 59) ?_;intro gb491 hg w7 hbox hb;have n0 := aM_ (nB_ BK490.out hb);have n1 := aM_ (sT_ HB.out hb);have n2 := aM_ (hbox);have n3 := aM_ (sZ_ hg HB.out);have n4 := aM_ (sZ_ hg HB.out);have n5 := aM_ (nL_ hg BK490.out);have n6 := aM_ (nG_ hg BK490.out);clear BK490;clear HB;have BK490 := n0;have HB := n1;have BK491 := n2;have GW491 := n3;have GE491 := n4;have NB490_491 := n5;have NB491_490 := n6;clear n0 n1 n2 n3 n4 n5 n6;clear hb hbox hg) | ((with_reducible refine gate_dst (N := 6) rfl ?_);(try (refine gate_guard (by rfl) ?_;dsimp only));refine bX_ 6 (cs := #[.slice A2_0 l2_0.length c2_0,.slice A2_1 l2_1.length c2_1,.slice A2_2 l2_2.length c2_2]) (t := 28) ?_;intro gb492 hg w8 hbox hb;have n0 := aM_ (nB_ BK490.out hb);have n1 := aM_ (nB_ BK491.out hb);have n2 := aM_ (sT_ HB.out hb);have n3 := aM_ (hbox);have n4 := aM_ (sZ_ hg HB.out);have n5 := aM_ (sZ_ hg HB.out);have n6 := aM_ (nL_ hg BK490.out);have n7 := aM_ (nG_ hg BK490.out);have n8 := aM_ (nL_ hg BK491.out);have n9 := aM_ (nG_ hg BK491.out);clear BK490;clear BK491;clear HB;have BK490 := n0;have BK491 := n1;have HB := n2;have BK492 := n3;have GW492 := n4;have GE492 := n5;have NB490_492 := n6;have NB492_490 := n7;have NB491_492 := n8;have NB492_491 := n9;clear n0 n1 n2 n3 n4 n5 n6 n7 n8 n9;clear hb hbox hg))
 (try simp only [Act.put,List.setIfInBounds_toArray,List.set_cons_zero,List.set_cons_succ])
 go_cut [25] (fun v25 wc => ∃ (kq : Nat) (x25_4 : Bool),v25 = .bool x25_4 ∧ Aside0 (impl_ChanSame.j0 kq a3 x25_4 l0_0 l0_1 l1_0 l1_1 l1_2 l1_3 l2_0 l2_1 l2_2 = some r) ∧ Aside0 (kq ≤ k) ∧ Aside0 (wc.heap[gb490]? = some (.cells #[(.slice A0_0 l0_0.length c0_0),(.slice A0_1 l0_1.length c0_1)] 44 (0,0))) ∧ Aside0 (wc.heap[gb491]? = some (.cells #[(.slice A1_0 l1_0.length c1_0),(.slice A1_1 l1_1.length c1_1),(.slice A1_2 l1_2.length c1_2),(.slice A1_3 l1_3.length c1_3)] 59 (0,0))) ∧ Aside0 (wc.heap[gb492]? = some (.cells #[(.slice A2_0 l2_0.length c2_0),(.slice A2_1 l2_1.length c2_1),(.slice A2_2 l2_2.length c2_2)] 28 (0,0))) ∧ Aside0 (Below w.heap.size w wc))
 case first =>
  have H := HC5.out
  clear HC5
  replace H := Option.bind_eq_some_iff.mp H
  obtain ⟨t493,A90,H⟩ := H
  replace H : (if t493 = true then (impl_ChanSame.j0 k a3 (decide (a3 ≥ (l2_1.length : Int))) l0_0 l0_1 l1_0 l1_1 l1_2 l1_3 l2_0 l2_1 l2_2) else (impl_ChanSame.j0 k a3 true l0_0 l0_1 l1_0 l1_1 l1_2 l1_3 l2_0 l2_1 l2_2)) = some r := H
  have A9 := aM_ A90
  clear A90
  by_cases c10 : t493 = true
  ·subst c10
   have H1 : (impl_ChanSame.j0 k a3 (decide (a3 ≥ (l2_1.length : Int))) l0_0 l0_1 l1_0 l1_1 l1_2 l1_3 l2_0 l2_1 l2_2) = some r := by rw [if_pos rfl] at H;exact H
   clear H
   have H := H1
   clear H1
   have H' := aM_ H
   clear H
   have hnb11 := NB490_491.out
   have hnc11 := NB491_490.out
   have hnb12 := NB490_492.out
   have hnc12 := NB492_490.out
   obtain ⟨hcz13_0,hcz13_1,hfz13_0,hfz13_1⟩ := bR2_ BK490.out
   go_wp2_with (first | ((with_reducible refine gate_callee (f := 106) rfl ?_);refine gL_ (some 17) Try.func106 #[.int .i64 a3,.int .i64 0,.int .i64 (wrap64 ((l0_0.length : Int) - 1))] ?_;(with_reducible refine (impl_within.calls a3 0 (wrap64 ((l0_0.length : Int) - 1)) true _ A9.out).mono ?_);rintro e w' ⟨rfl,⟨nd,rfl⟩⟩;refine ⟨_,rfl,?_⟩;have hnb14 := NB492_491.out;have hnc14 := NB491_492.out;obtain ⟨hcz15_0,hcz15_1,hcz15_2,hfz15_0,hfz15_1,hfz15_2⟩ := bR3_ BK492.out))
   go_meet
   case rel => exact ⟨_,(decide (a3 ≥ (l2_1.length : Int))),(by first | rfl | (simp;done) | (simp [*];done)),H',⟨by first | omega | exact Nat.le_refl _⟩,⟨rW_ BK490.out⟩,⟨rW_ BK491.out⟩,⟨rW_ BK492.out⟩,⟨gW_ HB.out⟩⟩
  ·replace c10 := Bool.eq_false_iff.mpr c10
   subst c10
   have H1 : (impl_ChanSame.j0 k a3 true l0_0 l0_1 l1_0 l1_1 l1_2 l1_3 l2_0 l2_1 l2_2) = some r := by rw [if_neg (show ¬ (false = true) by decide)] at H;exact H
   clear H
   have H := H1
   clear H1
   have H' := aM_ H
   clear H
   have hnb16 := NB490_491.out
   have hnc16 := NB491_490.out
   have hnb17 := NB490_492.out
   have hnc17 := NB492_490.out
   obtain ⟨hcz18_0,hcz18_1,hfz18_0,hfz18_1⟩ := bR2_ BK490.out
   go_wp2_with (first | ((with_reducible refine gate_callee (f := 106) rfl ?_);refine gL_ (some 17) Try.func106 #[.int .i64 a3,.int .i64 0,.int .i64 (wrap64 ((l0_0.length : Int) - 1))] ?_;(with_reducible refine (impl_within.calls a3 0 (wrap64 ((l0_0.length : Int) - 1)) false _ A9.out).mono ?_);rintro e w' ⟨rfl,⟨nd,rfl⟩⟩;refine ⟨_,rfl,?_⟩))
   go_meet
   case rel => exact ⟨_,(true),(by first | rfl | (simp;done) | (simp [*];done)),H',⟨by first | omega | exact Nat.le_refl _⟩,⟨rW_ BK490.out⟩,⟨rW_ BK491.out⟩,⟨rW_ BK492.out⟩,⟨gW_ HB.out⟩⟩
 case rest =>
  clear HC5
  try clear c1
  try clear c2
  try clear p2
  try clear c4
  try clear p6
  try clear c10
  try clear c11
  try clear c12
  try clear c14
  try clear c16
  try clear c17
  try clear hcz13_0 hcz13_1 hfz13_0 hfz13_1
  try clear hcz15_0 hcz15_1 hcz15_2 hfz15_0 hfz15_1 hfz15_2
  try clear hcz18_0 hcz18_1 hfz18_0 hfz18_1
  obtain ⟨kq,x25_4,rfl,HA,HJ4,BK490,BK491,BK492,HB⟩ := hcut
  cases kq with
  | zero => exact absurd HA.out (by simp [impl_ChanSame.j0])
  | succ kj4 =>
   have H := HA.out
   clear HA
   simp only [impl_ChanSame.j0] at H
   by_cases c19 : x25_4 = true
   ·subst c19
    have H1 : (some false) = some r := by rw [if_pos rfl] at H;exact H
    clear H
    have H := H1
    clear H1
    obtain rfl := Option.some.inj H
    go_wp2
    go_ret
    exact fI_ HB.out
   ·replace c19 := Bool.eq_false_iff.mpr c19
    subst c19
    have H1 : ((impl_Locked.f kj4 l1_2 l0_0 a3).bind fun t494 => (if t494 = true then (some true) else ((impl_ChanIn.f kj4 l1_2 l0_0 a3).bind fun bt495 => (if 0 ≤ a3 then (if a3 < (l2_1.length : Int) then (if bt495.2.2.2 = true then (if bt495.1 = ((rd_T94 l2_1 a3).f0) then ((slices_Equal_int_int.f kj4 bt495.2.1 ((rd_T94 l2_1 a3).f1)).bind fun t504 => (if t504 = true then (some (bt495.2.2.1 == ((rd_T94 l2_1 a3).f2))) else (some false))) else (some false)) else (some false)) else (none)) else (none))))) = some r := by rw [if_neg (show ¬ (false = true) by decide)] at H;exact H
    clear H
    have H := H1
    clear H1
    replace H := Option.bind_eq_some_iff.mp H
    obtain ⟨t494,A200,H⟩ := H
    replace H : (if t494 = true then (some true) else ((impl_ChanIn.f kj4 l1_2 l0_0 a3).bind fun bt495 => (if 0 ≤ a3 then (if a3 < (l2_1.length : Int) then (if bt495.2.2.2 = true then (if bt495.1 = ((rd_T94 l2_1 a3).f0) then ((slices_Equal_int_int.f kj4 bt495.2.1 ((rd_T94 l2_1 a3).f1)).bind fun t504 => (if t504 = true then (some (bt495.2.2.1 == ((rd_T94 l2_1 a3).f2))) else (some false))) else (some false)) else (some false)) else (none)) else (none)))) = some r := H
    have A20 := aM_ A200
    clear A200
    by_cases c21 : t494 = true
    ·subst c21
     have H1 : (some true) = some r := by rw [if_pos rfl] at H;exact H
     clear H
     have H := H1
     clear H1
     obtain rfl := Option.some.inj H
     have hnb22 := NB491_490.out
     have hnc22 := NB490_491.out
     have hnb23 := NB491_492.out
     have hnc23 := NB492_491.out
     obtain ⟨hcz24_0,hcz24_1,hcz24_2,hcz24_3,hfz24_0,hfz24_1,hfz24_2,hfz24_3⟩ := bR4_ BK491.out
     have hnb25 := NB490_492.out
     have hnc25 := NB492_490.out
     obtain ⟨hcz26_0,hcz26_1,hfz26_0,hfz26_1⟩ := bR2_ BK490.out
     go_wp2_with (first | ((with_reducible refine gate_callee (f := 52) rfl ?_);refine gL_ (some 31) Try.func52 #[.agg #[.slice A1_2 l1_2.length c1_2],.slice A0_0 l0_0.length c0_0,.int .i64 a3] ?_;(with_reducible refine (impl_Locked.calls kj4 _ _ l1_2 _ _ l0_0 a3 true _ ?side1 ?side2 ?side3 ?side4 A20.out).mono ?_);(case side1 => exact cS_ (Kd.C_below HR1_2.out HB.out));(case side2 => exact HC1_2.out);(case side3 => exact cS_ (Kd.C_below HR0_0.out HB.out));(case side4 => exact HC0_0.out);rintro e w27 ⟨rfl,hb⟩;refine ⟨_,rfl,?_⟩;have n0 := aM_ (nB_ BK490.out hb);have n1 := aM_ (nB_ BK491.out hb);have n2 := aM_ (nB_ BK492.out hb);have n3 := aM_ (sT_ HB.out hb);clear BK490;clear BK491;clear BK492;clear HB;have BK490 := n0;have BK491 := n1;have BK492 := n2;have HB := n3;clear n0 n1 n2 n3))
     go_ret
     exact fI_ HB.out
    ·replace c21 := Bool.eq_false_iff.mpr c21
     subst c21
     have H1 : ((impl_ChanIn.f kj4 l1_2 l0_0 a3).bind fun bt495 => (if 0 ≤ a3 then (if a3 < (l2_1.length : Int) then (if bt495.2.2.2 = true then (if bt495.1 = ((rd_T94 l2_1 a3).f0) then ((slices_Equal_int_int.f kj4 bt495.2.1 ((rd_T94 l2_1 a3).f1)).bind fun t504 => (if t504 = true then (some (bt495.2.2.1 == ((rd_T94 l2_1 a3).f2))) else (some false))) else (some false)) else (some false)) else (none)) else (none))) = some r := by rw [if_neg (show ¬ (false = true) by decide)] at H;exact H
     clear H
     have H := H1
     clear H1
     replace H := Option.bind_eq_some_iff.mp H
     obtain ⟨⟨t495,t496,t499,t500⟩,A280,H⟩ := H
     replace H : (if 0 ≤ a3 then (if a3 < (l2_1.length : Int) then (if t500 = true then (if t495 = ((rd_T94 l2_1 a3).f0) then ((slices_Equal_int_int.f kj4 t496 ((rd_T94 l2_1 a3).f1)).bind fun t504 => (if t504 = true then (some (t499 == ((rd_T94 l2_1 a3).f2))) else (some false))) else (some false)) else (some false)) else (none)) else (none)) = some r := H
     have A28 := aM_ A280
     clear A280
     by_cases c29 : 0 ≤ a3
     ·rw [if_pos c29] at H
      have c29b0 : decide (0 ≤ a3) = true := decide_eq_true c29
      clear c29
      by_cases c30 : a3 < (l2_1.length : Int)
      ·rw [if_pos c30] at H
       have c30b0 : decide (a3 < (l2_1.length : Int)) = true := decide_eq_true c30
       clear c30
       by_cases c31 : t500 = true
       ·subst c31
        have H1 : (if t495 = ((rd_T94 l2_1 a3).f0) then ((slices_Equal_int_int.f kj4 t496 ((rd_T94 l2_1 a3).f1)).bind fun t504 => (if t504 = true then (some (t499 == ((rd_T94 l2_1 a3).f2))) else (some false))) else (some false)) = some r := by rw [if_pos rfl] at H;exact H
        clear H
        have H := H1
        clear H1
        by_cases c32 : t495 = ((rd_T94 l2_1 a3).f0)
        ·rw [if_pos c32] at H
         have c32b0 : (t495 == ((rd_T94 l2_1 a3).f0)) = true := beq_iff_eq.mpr c32
         have c32b1 : (t495 != ((rd_T94 l2_1 a3).f0)) = false := bne_eq_false_iff_eq.mpr c32
         clear c32
         replace H := Option.bind_eq_some_iff.mp H
         obtain ⟨t504,A330,H⟩ := H
         replace H : (if t504 = true then (some (t499 == ((rd_T94 l2_1 a3).f2))) else (some false)) = some r := H
         have A33 := aM_ A330
         clear A330
         by_cases c34 : t504 = true
         ·subst c34
          have H1 : (some (t499 == ((rd_T94 l2_1 a3).f2))) = some r := by rw [if_pos rfl] at H;exact H
          clear H
          have H := H1
          clear H1
          obtain rfl := Option.some.inj H
          have hnb35 := NB491_490.out
          have hnc35 := NB490_491.out
          have hnb36 := NB491_492.out
          have hnc36 := NB492_491.out
          obtain ⟨hcz37_0,hcz37_1,hcz37_2,hcz37_3,hfz37_0,hfz37_1,hfz37_2,hfz37_3⟩ := bR4_ BK491.out
          have hnb38 := NB490_492.out
          have hnc38 := NB492_490.out
          obtain ⟨hcz39_0,hcz39_1,hfz39_0,hfz39_1⟩ := bR2_ BK490.out
          go_wp2_with (first | ((with_reducible refine gate_callee (f := 52) rfl ?_);refine gL_ (some 31) Try.func52 #[.agg #[.slice A1_2 l1_2.length c1_2],.slice A0_0 l0_0.length c0_0,.int .i64 a3] ?_;(with_reducible refine (impl_Locked.calls kj4 _ _ l1_2 _ _ l0_0 a3 false _ ?side1 ?side2 ?side3 ?side4 A20.out).mono ?_);(case side1 => exact cS_ (Kd.C_below HR1_2.out HB.out));(case side2 => exact HC1_2.out);(case side3 => exact cS_ (Kd.C_below HR0_0.out HB.out));(case side4 => exact HC0_0.out);rintro e w40 ⟨rfl,hb⟩;refine ⟨_,rfl,?_⟩;have n0 := aM_ (nB_ BK490.out hb);have n1 := aM_ (nB_ BK491.out hb);have n2 := aM_ (nB_ BK492.out hb);have n3 := aM_ (sT_ HB.out hb);clear BK490;clear BK491;clear BK492;clear HB;have BK490 := n0;have BK491 := n1;have BK492 := n2;have HB := n3;clear n0 n1 n2 n3;obtain ⟨hcz41_0,hcz41_1,hcz41_2,hcz41_3,hfz41_0,hfz41_1,hfz41_2,hfz41_3⟩ := bR4_ BK491.out;obtain ⟨hcz42_0,hcz42_1,hfz42_0,hfz42_1⟩ := bR2_ BK490.out) | ((with_reducible refine gate_callee (f := 50) rfl ?_);refine gL_ (some 38) Try.func50 #[.agg #[.slice A1_2 l1_2.length c1_2],.slice A0_0 l0_0.length c0_0,.int .i64 a3] ?_;(with_reducible refine (impl_ChanIn.calls kj4 _ _ l1_2 _ _ l0_0 a3 t495 t496 t499 true _ ?side1 ?side2 ?side3 ?side4 A28.out).mono ?_);(case side1 => exact cS_ (Kd.C_below HR1_2.out HB.out));(case side2 => exact HC1_2.out);(case side3 => exact cS_ (Kd.C_below HR0_0.out HB.out));(case side4 => exact HC0_0.out);rintro e w43 ⟨v497,rfl,ho0,hb⟩;refine ⟨_,rfl,?_⟩;have n0 := aM_ (Kd.R_lower ho0 (below_size (gB_ HB.out)));have n1 := aM_ (nB_ BK490.out hb);have n2 := aM_ (nB_ BK491.out hb);have n3 := aM_ (nB_ BK492.out hb);have n4 := aM_ (sT_ HB.out hb);clear BK490;clear BK491;clear BK492;clear HB;have HO498 := n0;have BK490 := n1;have BK491 := n2;have BK492 := n3;have HB := n4;clear n0 n1 n2 n3 n4;(try clear ho0)) | ((with_reducible refine gate_dst (N := 9) rfl ?_);(try (refine gate_guard (by rfl) ?_;dsimp only));refine bX_ 9 (cs := #[.int .i64 0,.slice none 0 0,.bool false]) (t := 94) ?_;intro gb501 hg w44 hbox hb;have n0 := aM_ (bR_ HO498.out hb);have n1 := aM_ (nB_ BK490.out hb);have n2 := aM_ (nB_ BK491.out hb);have n3 := aM_ (nB_ BK492.out hb);have n4 := aM_ (sT_ HB.out hb);have n5 := aM_ (hbox);have n6 := aM_ (sZ_ hg HB.out);have n7 := aM_ (sZ_ hg HB.out);have n8 := aM_ (nL_ hg BK490.out);have n9 := aM_ (nG_ hg BK490.out);have n10 := aM_ (nL_ hg BK491.out);have n11 := aM_ (nG_ hg BK491.out);have n12 := aM_ (nL_ hg BK492.out);have n13 := aM_ (nG_ hg BK492.out);clear HO498;clear BK490;clear BK491;clear BK492;clear HB;have HO498 := n0;have BK490 := n1;have BK491 := n2;have BK492 := n3;have HB := n4;have BK501 := n5;have GW501 := n6;have GE501 := n7;have NB490_501 := n8;have NB501_490 := n9;have NB491_501 := n10;have NB501_491 := n11;have NB492_501 := n12;have NB501_492 := n13;clear n0 n1 n2 n3 n4 n5 n6 n7 n8 n9 n10 n11 n12 n13;clear hb hbox hg;have hnb45 := NB501_490.out;have hnc45 := NB490_501.out;have hnb46 := NB501_491.out;have hnc46 := NB491_501.out;have hnb47 := NB501_492.out;have hnc47 := NB492_501.out;obtain ⟨hcz48_0,hcz48_1,hcz48_2,hfz48_0,hfz48_1,hfz48_2⟩ := bR3_ BK501.out;obtain ⟨Ao49,co49,eo49⟩ := Kd.R_slice HO498.out;subst eo49;obtain ⟨hcz50_0,hcz50_1,hcz50_2,hfz50_0,hfz50_1,hfz50_2⟩ := bR3_ BK492.out;have p502 : 0 ≤ (a3 : Int) := of_decide_eq_true (by first | (with_reducible assumption) | assumption);have q502 : a3 < (l2_1.length : Int) := of_decide_eq_true (by first | (with_reducible assumption) | assumption);obtain ⟨ad502,A502_1,c502_1,e502,hx502_0,hx502_1,hx502_2,hl502_1,hi502_1⟩ := at_T94 HR2_1.out a3 p502 q502;cases e502;have hn502_0 : ad502.block ≠ gb501 := nE_ hx502_0 GW501.out;have hn502_1 : ad502.block ≠ gb501 := nE_ hx502_0 GW501.out;have hn502_2 : ad502.block ≠ gb501 := nE_ hx502_0 GW501.out;replace hx502_0 := cB_ HB.out hx502_0;replace hx502_1 := cB_ HB.out hx502_1;replace hx502_2 := cB_ HB.out hx502_2;have HR502_1 := aM_ hi502_1;have HC502_1 := aM_ hl502_1;clear hi502_1 hl502_1;replace hx502_0 := cF_ ⟨gb501,0,none⟩ hn502_0 (.int .i64 t495) hx502_0;replace hx502_1 := cF_ ⟨gb501,0,none⟩ hn502_0 (.int .i64 t495) hx502_1;replace hx502_2 := cF_ ⟨gb501,0,none⟩ hn502_0 (.int .i64 t495) hx502_2;replace hx502_0 := cF_ ⟨gb501,1,none⟩ hn502_1 (.slice Ao49 t496.length co49) hx502_0;replace hx502_1 := cF_ ⟨gb501,1,none⟩ hn502_1 (.slice Ao49 t496.length co49) hx502_1;replace hx502_2 := cF_ ⟨gb501,1,none⟩ hn502_1 (.slice Ao49 t496.length co49) hx502_2;replace hx502_0 := cF_ ⟨gb501,2,none⟩ hn502_2 (.bool t499) hx502_0;replace hx502_1 := cF_ ⟨gb501,2,none⟩ hn502_2 (.bool t499) hx502_1;replace hx502_2 := cF_ ⟨gb501,2,none⟩ hn502_2 (.bool t499) hx502_2;clear hn502_0;clear hn502_1;clear hn502_2;replace p502 := eq_true p502;replace q502 := eq_true q502) | ((with_reducible refine gate_dst (N := 11) rfl ?_);(try (refine gate_guard (by rfl) ?_;dsimp only));refine bX_ 11 (cs := #[.int .i64 0,.slice none 0 0,.bool false]) (t := 94) ?_;intro gb503 hg w51 hbox hb;have n0 := aM_ (Kd.R_below (by (with_reducible repeat (first | apply rA_ | apply rN_ | apply rD_));exact (Kd.R_mono (Kd.R_far (p := ⟨gb501,2,none⟩) (Kd.R_far (p := ⟨gb501,1,none⟩) (Kd.R_far (p := ⟨gb501,0,none⟩) (Kd.R_types HO498.out BK501.out (by decide)) (fun _ hk => hk.2) (.int .i64 t495)) (fun _ hk => hk.2) (.slice Ao49 t496.length co49)) (fun _ hk => hk.2) (.bool t499)) (fun _ h_ => h_.1))) hb);have n1 := aM_ (nBf_ BK490.out hb);have n2 := aM_ (nBf_ BK491.out hb);have n3 := aM_ (nBf_ BK492.out hb);have n4 := aM_ (blk_below (g := gb501) (o := .cells #[.int .i64 t495,.slice Ao49 t496.length co49,.bool t499] 94 (0,0)) (by (with_reducible repeat (first | refine bN_ ?_ _ | refine bD_ ?_ | refine bA_ ?_ _));refine blk_put (cs := #[.int .i64 t495,.slice Ao49 t496.length co49,.bool false]) ?_ 2 _ rfl;refine blk_put (cs := #[.int .i64 t495,.slice none 0 0,.bool false]) ?_ 1 _ rfl;refine blk_put (cs := #[.int .i64 0,.slice none 0 0,.bool false]) ?_ 0 _ rfl;exact rW_ BK501.out) hb);have n5 := aM_ (sT_ HB.out hb);have n6 := aM_ (hbox);have n7 := aM_ (sZ_ hg HB.out);have n8 := aM_ (sZ_ hg HB.out);have n9 := aM_ (nLf_ hg BK490.out);have n10 := aM_ (nGf_ hg BK490.out);have n11 := aM_ (nLf_ hg BK491.out);have n12 := aM_ (nGf_ hg BK491.out);have n13 := aM_ (nLf_ hg BK492.out);have n14 := aM_ (nGf_ hg BK492.out);have n15 := aM_ ((by rw [hg];exact Nat.ne_of_lt (blk_lt (g := gb501) (o := .cells #[.int .i64 t495,.slice Ao49 t496.length co49,.bool t499] 94 (0,0)) (by (with_reducible repeat (first | refine bN_ ?_ _ | refine bD_ ?_ | refine bA_ ?_ _));refine blk_put (cs := #[.int .i64 t495,.slice Ao49 t496.length co49,.bool false]) ?_ 2 _ rfl;refine blk_put (cs := #[.int .i64 t495,.slice none 0 0,.bool false]) ?_ 1 _ rfl;refine blk_put (cs := #[.int .i64 0,.slice none 0 0,.bool false]) ?_ 0 _ rfl;exact rW_ BK501.out)) : gb501 ≠ gb503));have n16 := aM_ ((by rw [hg];exact Nat.ne_of_gt (blk_lt (g := gb501) (o := .cells #[.int .i64 t495,.slice Ao49 t496.length co49,.bool t499] 94 (0,0)) (by (with_reducible repeat (first | refine bN_ ?_ _ | refine bD_ ?_ | refine bA_ ?_ _));refine blk_put (cs := #[.int .i64 t495,.slice Ao49 t496.length co49,.bool false]) ?_ 2 _ rfl;refine blk_put (cs := #[.int .i64 t495,.slice none 0 0,.bool false]) ?_ 1 _ rfl;refine blk_put (cs := #[.int .i64 0,.slice none 0 0,.bool false]) ?_ 0 _ rfl;exact rW_ BK501.out)) : gb503 ≠ gb501));clear HO498;clear BK490;clear BK491;clear BK492;clear BK501;clear HB;have HO498 := n0;have BK490 := n1;have BK491 := n2;have BK492 := n3;have BK501 := n4;have HB := n5;have BK503 := n6;have GW503 := n7;have GE503 := n8;have NB490_503 := n9;have NB503_490 := n10;have NB491_503 := n11;have NB503_491 := n12;have NB492_503 := n13;have NB503_492 := n14;have NB501_503 := n15;have NB503_501 := n16;clear n0 n1 n2 n3 n4 n5 n6 n7 n8 n9 n10 n11 n12 n13 n14 n15 n16;clear hb hbox hg;have hnb52 := NB503_490.out;have hnc52 := NB490_503.out;have hnb53 := NB503_491.out;have hnc53 := NB491_503.out;have hnb54 := NB503_492.out;have hnc54 := NB492_503.out;have hnb55 := NB503_501.out;have hnc55 := NB501_503.out;obtain ⟨hcz56_0,hcz56_1,hcz56_2,hfz56_0,hfz56_1,hfz56_2⟩ := bR3_ BK503.out;obtain ⟨hcz57_0,hcz57_1,hcz57_2,hfz57_0,hfz57_1,hfz57_2⟩ := bR3_ BK501.out) | (go_at_call 107;(with_reducible refine (slices_Equal_int_int.calls kj4 _ _ t496 _ _ ((rd_T94 l2_1 a3).f1) true _ ?side1 ?side2 ?side3 ?side4 A33.out).mono ?_);(case side1 => refine (Kd.R_reads' (e := 3) (base := w.heap.size) (ok := fun k_ => True) (n := t496.length) (c := co49) ?_).2.2;exact (by (with_reducible repeat (first | apply rA_ | apply rN_ | apply rD_));exact (Kd.R_mono (Kd.R_far (p := ⟨gb503,2,none⟩) (Kd.R_far (p := ⟨gb503,1,none⟩) (Kd.R_far (p := ⟨gb503,0,none⟩) (Kd.R_types HO498.out BK503.out (by decide)) (fun _ hk => hk.2) (.int .i64 ((rd_T94 l2_1 a3).f0))) (fun _ hk => hk.2) (.slice A502_1 ((rd_T94 l2_1 a3).f1).length c502_1)) (fun _ hk => hk.2) (.bool ((rd_T94 l2_1 a3).f2))) (fun _ h_ => h_.1))));(case side2 => exact (Kd.R_reads' HO498.out).2.1);(case side3 => exact Kd.C_below HR502_1.out (gB_ HB.out));(case side4 => exact HC502_1.out);rintro e w' ⟨rfl,⟨nd,rfl⟩⟩))
          go_ret
          exact fI_ HB.out
         ·replace c34 := Bool.eq_false_iff.mpr c34
          subst c34
          have H1 : (some false) = some r := by rw [if_neg (show ¬ (false = true) by decide)] at H;exact H
          clear H
          have H := H1
          clear H1
          obtain rfl := Option.some.inj H
          have hnb58 := NB491_490.out
          have hnc58 := NB490_491.out
          have hnb59 := NB491_492.out
          have hnc59 := NB492_491.out
          obtain ⟨hcz60_0,hcz60_1,hcz60_2,hcz60_3,hfz60_0,hfz60_1,hfz60_2,hfz60_3⟩ := bR4_ BK491.out
          have hnb61 := NB490_492.out
          have hnc61 := NB492_490.out
          obtain ⟨hcz62_0,hcz62_1,hfz62_0,hfz62_1⟩ := bR2_ BK490.out
          go_wp2_with (first | ((with_reducible refine gate_callee (f := 52) rfl ?_);refine gL_ (some 31) Try.func52 #[.agg #[.slice A1_2 l1_2.length c1_2],.slice A0_0 l0_0.length c0_0,.int .i64 a3] ?_;(with_reducible refine (impl_Locked.calls kj4 _ _ l1_2 _ _ l0_0 a3 false _ ?side1 ?side2 ?side3 ?side4 A20.out).mono ?_);(case side1 => exact cS_ (Kd.C_below HR1_2.out HB.out));(case side2 => exact HC1_2.out);(case side3 => exact cS_ (Kd.C_below HR0_0.out HB.out));(case side4 => exact HC0_0.out);rintro e w63 ⟨rfl,hb⟩;refine ⟨_,rfl,?_⟩;have n0 := aM_ (nB_ BK490.out hb);have n1 := aM_ (nB_ BK491.out hb);have n2 := aM_ (nB_ BK492.out hb);have n3 := aM_ (sT_ HB.out hb);clear BK490;clear BK491;clear BK492;clear HB;have BK490 := n0;have BK491 := n1;have BK492 := n2;have HB := n3;clear n0 n1 n2 n3;obtain ⟨hcz64_0,hcz64_1,hcz64_2,hcz64_3,hfz64_0,hfz64_1,hfz64_2,hfz64_3⟩ := bR4_ BK491.out;obtain ⟨hcz65_0,hcz65_1,hfz65_0,hfz65_1⟩ := bR2_ BK490.out) | ((with_reducible refine gate_callee (f := 50) rfl ?_);refine gL_ (some 38) Try.func50 #[.agg #[.slice A1_2 l1_2.length c1_2],.slice A0_0 l0_0.length c0_0,.int .i64 a3] ?_;(with_reducible refine (impl_ChanIn.calls kj4 _ _ l1_2 _ _ l0_0 a3 t495 t496 t499 true _ ?side1 ?side2 ?side3 ?side4 A28.out).mono ?_);(case side1 => exact cS_ (Kd.C_below HR1_2.out HB.out));(case side2 => exact HC1_2.out);(case side3 => exact cS_ (Kd.C_below HR0_0.out HB.out));(case side4 => exact HC0_0.out);rintro e w66 ⟨v497,rfl,ho0,hb⟩;refine ⟨_,rfl,?_⟩;have n0 := aM_ (Kd.R_lower ho0 (below_size (gB_ HB.out)));have n1 := aM_ (nB_ BK490.out hb);have n2 := aM_ (nB_ BK491.out hb);have n3 := aM_ (nB_ BK492.out hb);have n4 := aM_ (sT_ HB.out hb);clear BK490;clear BK491;clear BK492;clear HB;have HO498 := n0;have BK490 := n1;have BK491 := n2;have BK492 := n3;have HB := n4;clear n0 n1 n2 n3 n4;(try clear ho0)) | ((with_reducible refine gate_dst (N := 9) rfl ?_);(try (refine gate_guard (by rfl) ?_;dsimp only));refine bX_ 9 (cs := #[.int .i64 0,.slice none 0 0,.bool false]) (t := 94) ?_;intro gb501 hg w67 hbox hb;have n0 := aM_ (bR_ HO498.out hb);have n1 := aM_ (nB_ BK490.out hb);have n2 := aM_ (nB_ BK491.out hb);have n3 := aM_ (nB_ BK492.out hb);have n4 := aM_ (sT_ HB.out hb);have n5 := aM_ (hbox);have n6 := aM_ (sZ_ hg HB.out);have n7 := aM_ (sZ_ hg HB.out);have n8 := aM_ (nL_ hg BK490.out);have n9 := aM_ (nG_ hg BK490.out);have n10 := aM_ (nL_ hg BK491.out);have n11 := aM_ (nG_ hg BK491.out);have n12 := aM_ (nL_ hg BK492.out);have n13 := aM_ (nG_ hg BK492.out);clear HO498;clear BK490;clear BK491;clear BK492;clear HB;have HO498 := n0;have BK490 := n1;have BK491 := n2;have BK492 := n3;have HB := n4;have BK501 := n5;have GW501 := n6;have GE501 := n7;have NB490_501 := n8;have NB501_490 := n9;have NB491_501 := n10;have NB501_491 := n11;have NB492_501 := n12;have NB501_492 := n13;clear n0 n1 n2 n3 n4 n5 n6 n7 n8 n9 n10 n11 n12 n13;clear hb hbox hg;have hnb68 := NB501_490.out;have hnc68 := NB490_501.out;have hnb69 := NB501_491.out;have hnc69 := NB491_501.out;have hnb70 := NB501_492.out;have hnc70 := NB492_501.out;obtain ⟨hcz71_0,hcz71_1,hcz71_2,hfz71_0,hfz71_1,hfz71_2⟩ := bR3_ BK501.out;obtain ⟨Ao72,co72,eo72⟩ := Kd.R_slice HO498.out;subst eo72;obtain ⟨hcz73_0,hcz73_1,hcz73_2,hfz73_0,hfz73_1,hfz73_2⟩ := bR3_ BK492.out;have p502 : 0 ≤ (a3 : Int) := of_decide_eq_true (by first | (with_reducible assumption) | assumption);have q502 : a3 < (l2_1.length : Int) := of_decide_eq_true (by first | (with_reducible assumption) | assumption);obtain ⟨ad502,A502_1,c502_1,e502,hx502_0,hx502_1,hx502_2,hl502_1,hi502_1⟩ := at_T94 HR2_1.out a3 p502 q502;cases e502;have hn502_0 : ad502.block ≠ gb501 := nE_ hx502_0 GW501.out;have hn502_1 : ad502.block ≠ gb501 := nE_ hx502_0 GW501.out;have hn502_2 : ad502.block ≠ gb501 := nE_ hx502_0 GW501.out;replace hx502_0 := cB_ HB.out hx502_0;replace hx502_1 := cB_ HB.out hx502_1;replace hx502_2 := cB_ HB.out hx502_2;have HR502_1 := aM_ hi502_1;have HC502_1 := aM_ hl502_1;clear hi502_1 hl502_1;replace hx502_0 := cF_ ⟨gb501,0,none⟩ hn502_0 (.int .i64 t495) hx502_0;replace hx502_1 := cF_ ⟨gb501,0,none⟩ hn502_0 (.int .i64 t495) hx502_1;replace hx502_2 := cF_ ⟨gb501,0,none⟩ hn502_0 (.int .i64 t495) hx502_2;replace hx502_0 := cF_ ⟨gb501,1,none⟩ hn502_1 (.slice Ao72 t496.length co72) hx502_0;replace hx502_1 := cF_ ⟨gb501,1,none⟩ hn502_1 (.slice Ao72 t496.length co72) hx502_1;replace hx502_2 := cF_ ⟨gb501,1,none⟩ hn502_1 (.slice Ao72 t496.length co72) hx502_2;replace hx502_0 := cF_ ⟨gb501,2,none⟩ hn502_2 (.bool t499) hx502_0;replace hx502_1 := cF_ ⟨gb501,2,none⟩ hn502_2 (.bool t499) hx502_1;replace hx502_2 := cF_ ⟨gb501,2,none⟩ hn502_2 (.bool t499) hx502_2;clear hn502_0;clear hn502_1;clear hn502_2;replace p502 := eq_true p502;replace q502 := eq_true q502) | ((with_reducible refine gate_dst (N := 11) rfl ?_);(try (refine gate_guard (by rfl) ?_;dsimp only));refine bX_ 11 (cs := #[.int .i64 0,.slice none 0 0,.bool false]) (t := 94) ?_;intro gb503 hg w74 hbox hb;have n0 := aM_ (Kd.R_below (by (with_reducible repeat (first | apply rA_ | apply rN_ | apply rD_));exact (Kd.R_mono (Kd.R_far (p := ⟨gb501,2,none⟩) (Kd.R_far (p := ⟨gb501,1,none⟩) (Kd.R_far (p := ⟨gb501,0,none⟩) (Kd.R_types HO498.out BK501.out (by decide)) (fun _ hk => hk.2) (.int .i64 t495)) (fun _ hk => hk.2) (.slice Ao72 t496.length co72)) (fun _ hk => hk.2) (.bool t499)) (fun _ h_ => h_.1))) hb);have n1 := aM_ (nBf_ BK490.out hb);have n2 := aM_ (nBf_ BK491.out hb);have n3 := aM_ (nBf_ BK492.out hb);have n4 := aM_ (blk_below (g := gb501) (o := .cells #[.int .i64 t495,.slice Ao72 t496.length co72,.bool t499] 94 (0,0)) (by (with_reducible repeat (first | refine bN_ ?_ _ | refine bD_ ?_ | refine bA_ ?_ _));refine blk_put (cs := #[.int .i64 t495,.slice Ao72 t496.length co72,.bool false]) ?_ 2 _ rfl;refine blk_put (cs := #[.int .i64 t495,.slice none 0 0,.bool false]) ?_ 1 _ rfl;refine blk_put (cs := #[.int .i64 0,.slice none 0 0,.bool false]) ?_ 0 _ rfl;exact rW_ BK501.out) hb);have n5 := aM_ (sT_ HB.out hb);have n6 := aM_ (hbox);have n7 := aM_ (sZ_ hg HB.out);have n8 := aM_ (sZ_ hg HB.out);have n9 := aM_ (nLf_ hg BK490.out);have n10 := aM_ (nGf_ hg BK490.out);have n11 := aM_ (nLf_ hg BK491.out);have n12 := aM_ (nGf_ hg BK491.out);have n13 := aM_ (nLf_ hg BK492.out);have n14 := aM_ (nGf_ hg BK492.out);have n15 := aM_ ((by rw [hg];exact Nat.ne_of_lt (blk_lt (g := gb501) (o := .cells #[.int .i64 t495,.slice Ao72 t496.length co72,.bool t499] 94 (0,0)) (by (with_reducible repeat (first | refine bN_ ?_ _ | refine bD_ ?_ | refine bA_ ?_ _));refine blk_put (cs := #[.int .i64 t495,.slice Ao72 t496.length co72,.bool false]) ?_ 2 _ rfl;refine blk_put (cs := #[.int .i64 t495,.slice none 0 0,.bool false]) ?_ 1 _ rfl;refine blk_put (cs := #[.int .i64 0,.slice none 0 0,.bool false]) ?_ 0 _ rfl;exact rW_ BK501.out)) : gb501 ≠ gb503));have n16 := aM_ ((by rw [hg];exact Nat.ne_of_gt (blk_lt (g := gb501) (o := .cells #[.int .i64 t495,.slice Ao72 t496.length co72,.bool t499] 94 (0,0)) (by (with_reducible repeat (first | refine bN_ ?_ _ | refine bD_ ?_ | refine bA_ ?_ _));refine blk_put (cs := #[.int .i64 t495,.slice Ao72 t496.length co72,.bool false]) ?_ 2 _ rfl;refine blk_put (cs := #[.int .i64 t495,.slice none 0 0,.bool false]) ?_ 1 _ rfl;refine blk_put (cs := #[.int .i64 0,.slice none 0 0,.bool false]) ?_ 0 _ rfl;exact rW_ BK501.out)) : gb503 ≠ gb501));clear HO498;clear BK490;clear BK491;clear BK492;clear BK501;clear HB;have HO498 := n0;have BK490 := n1;have BK491 := n2;have BK492 := n3;have BK501 := n4;have HB := n5;have BK503 := n6;have GW503 := n7;have GE503 := n8;have NB490_503 := n9;have NB503_490 := n10;have NB491_503 := n11;have NB503_491 := n12;have NB492_503 := n13;have NB503_492 := n14;have NB501_503 := n15;have NB503_501 := n16;clear n0 n1 n2 n3 n4 n5 n6 n7 n8 n9 n10 n11 n12 n13 n14 n15 n16;clear hb hbox hg;have hnb75 := NB503_490.out;have hnc75 := NB490_503.out;have hnb76 := NB503_491.out;have hnc76 := NB491_503.out;have hnb77 := NB503_492.out;have hnc77 := NB492_503.out;have hnb78 := NB503_501.out;have hnc78 := NB501_503.out;obtain ⟨hcz79_0,hcz79_1,hcz79_2,hfz79_0,hfz79_1,hfz79_2⟩ := bR3_ BK503.out;obtain ⟨hcz80_0,hcz80_1,hcz80_2,hfz80_0,hfz80_1,hfz80_2⟩ := bR3_ BK501.out) | (go_at_call 107;(with_reducible refine (slices_Equal_int_int.calls kj4 _ _ t496 _ _ ((rd_T94 l2_1 a3).f1) false _ ?side1 ?side2 ?side3 ?side4 A33.out).mono ?_);(case side1 => refine (Kd.R_reads' (e := 3) (base := w.heap.size) (ok := fun k_ => True) (n := t496.length) (c := co72) ?_).2.2;exact (by (with_reducible repeat (first | apply rA_ | apply rN_ | apply rD_));exact (Kd.R_mono (Kd.R_far (p := ⟨gb503,2,none⟩) (Kd.R_far (p := ⟨gb503,1,none⟩) (Kd.R_far (p := ⟨gb503,0,none⟩) (Kd.R_types HO498.out BK503.out (by decide)) (fun _ hk => hk.2) (.int .i64 ((rd_T94 l2_1 a3).f0))) (fun _ hk => hk.2) (.slice A502_1 ((rd_T94 l2_1 a3).f1).length c502_1)) (fun _ hk => hk.2) (.bool ((rd_T94 l2_1 a3).f2))) (fun _ h_ => h_.1))));(case side2 => exact (Kd.R_reads' HO498.out).2.1);(case side3 => exact Kd.C_below HR502_1.out (gB_ HB.out));(case side4 => exact HC502_1.out);rintro e w' ⟨rfl,⟨nd,rfl⟩⟩))
          go_ret
          exact fI_ HB.out
        ·rw [if_neg c32] at H
         have c32b0 : (t495 == ((rd_T94 l2_1 a3).f0)) = false := beq_eq_false_iff_ne.mpr c32
         have c32b1 : (t495 != ((rd_T94 l2_1 a3).f0)) = true := bne_iff_ne.mpr c32
         obtain rfl := Option.some.inj H
         have hnb81 := NB491_490.out
         have hnc81 := NB490_491.out
         have hnb82 := NB491_492.out
         have hnc82 := NB492_491.out
         obtain ⟨hcz83_0,hcz83_1,hcz83_2,hcz83_3,hfz83_0,hfz83_1,hfz83_2,hfz83_3⟩ := bR4_ BK491.out
         have hnb84 := NB490_492.out
         have hnc84 := NB492_490.out
         obtain ⟨hcz85_0,hcz85_1,hfz85_0,hfz85_1⟩ := bR2_ BK490.out
         go_wp2_with (first | ((with_reducible refine gate_callee (f := 52) rfl ?_);refine gL_ (some 31) Try.func52 #[.agg #[.slice A1_2 l1_2.length c1_2],.slice A0_0 l0_0.length c0_0,.int .i64 a3] ?_;(with_reducible refine (impl_Locked.calls kj4 _ _ l1_2 _ _ l0_0 a3 false _ ?side1 ?side2 ?side3 ?side4 A20.out).mono ?_);(case side1 => exact cS_ (Kd.C_below HR1_2.out HB.out));(case side2 => exact HC1_2.out);(case side3 => exact cS_ (Kd.C_below HR0_0.out HB.out));(case side4 => exact HC0_0.out);rintro e w86 ⟨rfl,hb⟩;refine ⟨_,rfl,?_⟩;have n0 := aM_ (nB_ BK490.out hb);have n1 := aM_ (nB_ BK491.out hb);have n2 := aM_ (nB_ BK492.out hb);have n3 := aM_ (sT_ HB.out hb);clear BK490;clear BK491;clear BK492;clear HB;have BK490 := n0;have BK491 := n1;have BK492 := n2;have HB := n3;clear n0 n1 n2 n3;obtain ⟨hcz87_0,hcz87_1,hcz87_2,hcz87_3,hfz87_0,hfz87_1,hfz87_2,hfz87_3⟩ := bR4_ BK491.out;obtain ⟨hcz88_0,hcz88_1,hfz88_0,hfz88_1⟩ := bR2_ BK490.out) | ((with_reducible refine gate_callee (f := 50) rfl ?_);refine gL_ (some 38) Try.func50 #[.agg #[.slice A1_2 l1_2.length c1_2],.slice A0_0 l0_0.length c0_0,.int .i64 a3] ?_;(with_reducible refine (impl_ChanIn.calls kj4 _ _ l1_2 _ _ l0_0 a3 t495 t496 t499 true _ ?side1 ?side2 ?side3 ?side4 A28.out).mono ?_);(case side1 => exact cS_ (Kd.C_below HR1_2.out HB.out));(case side2 => exact HC1_2.out);(case side3 => exact cS_ (Kd.C_below HR0_0.out HB.out));(case side4 => exact HC0_0.out);rintro e w89 ⟨v497,rfl,ho0,hb⟩;refine ⟨_,rfl,?_⟩;have n0 := aM_ (Kd.R_lower ho0 (below_size (gB_ HB.out)));have n1 := aM_ (nB_ BK490.out hb);have n2 := aM_ (nB_ BK491.out hb);have n3 := aM_ (nB_ BK492.out hb);have n4 := aM_ (sT_ HB.out hb);clear BK490;clear BK491;clear BK492;clear HB;have HO498 := n0;have BK490 := n1;have BK491 := n2;have BK492 := n3;have HB := n4;clear n0 n1 n2 n3 n4;(try clear ho0)) | ((with_reducible refine gate_dst (N := 9) rfl ?_);(try (refine gate_guard (by rfl) ?_;dsimp only));refine bX_ 9 (cs := #[.int .i64 0,.slice none 0 0,.bool false]) (t := 94) ?_;intro gb501 hg w90 hbox hb;have n0 := aM_ (bR_ HO498.out hb);have n1 := aM_ (nB_ BK490.out hb);have n2 := aM_ (nB_ BK491.out hb);have n3 := aM_ (nB_ BK492.out hb);have n4 := aM_ (sT_ HB.out hb);have n5 := aM_ (hbox);have n6 := aM_ (sZ_ hg HB.out);have n7 := aM_ (sZ_ hg HB.out);have n8 := aM_ (nL_ hg BK490.out);have n9 := aM_ (nG_ hg BK490.out);have n10 := aM_ (nL_ hg BK491.out);have n11 := aM_ (nG_ hg BK491.out);have n12 := aM_ (nL_ hg BK492.out);have n13 := aM_ (nG_ hg BK492.out);clear HO498;clear BK490;clear BK491;clear BK492;clear HB;have HO498 := n0;have BK490 := n1;have BK491 := n2;have BK492 := n3;have HB := n4;have BK501 := n5;have GW501 := n6;have GE501 := n7;have NB490_501 := n8;have NB501_490 := n9;have NB491_501 := n10;have NB501_491 := n11;have NB492_501 := n12;have NB501_492 := n13;clear n0 n1 n2 n3 n4 n5 n6 n7 n8 n9 n10 n11 n12 n13;clear hb hbox hg;have hnb91 := NB501_490.out;have hnc91 := NB490_501.out;have hnb92 := NB501_491.out;have hnc92 := NB491_501.out;have hnb93 := NB501_492.out;have hnc93 := NB492_501.out;obtain ⟨hcz94_0,hcz94_1,hcz94_2,hfz94_0,hfz94_1,hfz94_2⟩ := bR3_ BK501.out;obtain ⟨Ao95,co95,eo95⟩ := Kd.R_slice HO498.out;subst eo95;obtain ⟨hcz96_0,hcz96_1,hcz96_2,hfz96_0,hfz96_1,hfz96_2⟩ := bR3_ BK492.out;have p502 : 0 ≤ (a3 : Int) := of_decide_eq_true (by first | (with_reducible assumption) | assumption);have q502 : a3 < (l2_1.length : Int) := of_decide_eq_true (by first | (with_reducible assumption) | assumption);obtain ⟨ad502,A502_1,c502_1,e502,hx502_0,hx502_1,hx502_2,hl502_1,hi502_1⟩ := at_T94 HR2_1.out a3 p502 q502;cases e502;have hn502_0 : ad502.block ≠ gb501 := nE_ hx502_0 GW501.out;have hn502_1 : ad502.block ≠ gb501 := nE_ hx502_0 GW501.out;have hn502_2 : ad502.block ≠ gb501 := nE_ hx502_0 GW501.out;replace hx502_0 := cB_ HB.out hx502_0;replace hx502_1 := cB_ HB.out hx502_1;replace hx502_2 := cB_ HB.out hx502_2;have HR502_1 := aM_ hi502_1;have HC502_1 := aM_ hl502_1;clear hi502_1 hl502_1;replace hx502_0 := cF_ ⟨gb501,0,none⟩ hn502_0 (.int .i64 t495) hx502_0;replace hx502_1 := cF_ ⟨gb501,0,none⟩ hn502_0 (.int .i64 t495) hx502_1;replace hx502_2 := cF_ ⟨gb501,0,none⟩ hn502_0 (.int .i64 t495) hx502_2;replace hx502_0 := cF_ ⟨gb501,1,none⟩ hn502_1 (.slice Ao95 t496.length co95) hx502_0;replace hx502_1 := cF_ ⟨gb501,1,none⟩ hn502_1 (.slice Ao95 t496.length co95) hx502_1;replace hx502_2 := cF_ ⟨gb501,1,none⟩ hn502_1 (.slice Ao95 t496.length co95) hx502_2;replace hx502_0 := cF_ ⟨gb501,2,none⟩ hn502_2 (.bool t499) hx502_0;replace hx502_1 := cF_ ⟨gb501,2,none⟩ hn502_2 (.bool t499) hx502_1;replace hx502_2 := cF_ ⟨gb501,2,none⟩ hn502_2 (.bool t499) hx502_2;clear hn502_0;clear hn502_1;clear hn502_2;replace p502 := eq_true p502;replace q502 := eq_true q502) | ((with_reducible refine gate_dst (N := 11) rfl ?_);(try (refine gate_guard (by rfl) ?_;dsimp only));refine bX_ 11 (cs := #[.int .i64 0,.slice none 0 0,.bool false]) (t := 94) ?_;intro gb503 hg w97 hbox hb;have n0 := aM_ (Kd.R_below (by (with_reducible repeat (first | apply rA_ | apply rN_ | apply rD_));exact (Kd.R_mono (Kd.R_far (p := ⟨gb501,2,none⟩) (Kd.R_far (p := ⟨gb501,1,none⟩) (Kd.R_far (p := ⟨gb501,0,none⟩) (Kd.R_types HO498.out BK501.out (by decide)) (fun _ hk => hk.2) (.int .i64 t495)) (fun _ hk => hk.2) (.slice Ao95 t496.length co95)) (fun _ hk => hk.2) (.bool t499)) (fun _ h_ => h_.1))) hb);have n1 := aM_ (nBf_ BK490.out hb);have n2 := aM_ (nBf_ BK491.out hb);have n3 := aM_ (nBf_ BK492.out hb);have n4 := aM_ (blk_below (g := gb501) (o := .cells #[.int .i64 t495,.slice Ao95 t496.length co95,.bool t499] 94 (0,0)) (by (with_reducible repeat (first | refine bN_ ?_ _ | refine bD_ ?_ | refine bA_ ?_ _));refine blk_put (cs := #[.int .i64 t495,.slice Ao95 t496.length co95,.bool false]) ?_ 2 _ rfl;refine blk_put (cs := #[.int .i64 t495,.slice none 0 0,.bool false]) ?_ 1 _ rfl;refine blk_put (cs := #[.int .i64 0,.slice none 0 0,.bool false]) ?_ 0 _ rfl;exact rW_ BK501.out) hb);have n5 := aM_ (sT_ HB.out hb);have n6 := aM_ (hbox);have n7 := aM_ (sZ_ hg HB.out);have n8 := aM_ (sZ_ hg HB.out);have n9 := aM_ (nLf_ hg BK490.out);have n10 := aM_ (nGf_ hg BK490.out);have n11 := aM_ (nLf_ hg BK491.out);have n12 := aM_ (nGf_ hg BK491.out);have n13 := aM_ (nLf_ hg BK492.out);have n14 := aM_ (nGf_ hg BK492.out);have n15 := aM_ ((by rw [hg];exact Nat.ne_of_lt (blk_lt (g := gb501) (o := .cells #[.int .i64 t495,.slice Ao95 t496.length co95,.bool t499] 94 (0,0)) (by (with_reducible repeat (first | refine bN_ ?_ _ | refine bD_ ?_ | refine bA_ ?_ _));refine blk_put (cs := #[.int .i64 t495,.slice Ao95 t496.length co95,.bool false]) ?_ 2 _ rfl;refine blk_put (cs := #[.int .i64 t495,.slice none 0 0,.bool false]) ?_ 1 _ rfl;refine blk_put (cs := #[.int .i64 0,.slice none 0 0,.bool false]) ?_ 0 _ rfl;exact rW_ BK501.out)) : gb501 ≠ gb503));have n16 := aM_ ((by rw [hg];exact Nat.ne_of_gt (blk_lt (g := gb501) (o := .cells #[.int .i64 t495,.slice Ao95 t496.length co95,.bool t499] 94 (0,0)) (by (with_reducible repeat (first | refine bN_ ?_ _ | refine bD_ ?_ | refine bA_ ?_ _));refine blk_put (cs := #[.int .i64 t495,.slice Ao95 t496.length co95,.bool false]) ?_ 2 _ rfl;refine blk_put (cs := #[.int .i64 t495,.slice none 0 0,.bool false]) ?_ 1 _ rfl;refine blk_put (cs := #[.int .i64 0,.slice none 0 0,.bool false]) ?_ 0 _ rfl;exact rW_ BK501.out)) : gb503 ≠ gb501));clear HO498;clear BK490;clear BK491;clear BK492;clear BK501;clear HB;have HO498 := n0;have BK490 := n1;have BK491 := n2;have BK492 := n3;have BK501 := n4;have HB := n5;have BK503 := n6;have GW503 := n7;have GE503 := n8;have NB490_503 := n9;have NB503_490 := n10;have NB491_503 := n11;have NB503_491 := n12;have NB492_503 := n13;have NB503_492 := n14;have NB501_503 := n15;have NB503_501 := n16;clear n0 n1 n2 n3 n4 n5 n6 n7 n8 n9 n10 n11 n12 n13 n14 n15 n16;clear hb hbox hg;have hnb98 := NB503_490.out;have hnc98 := NB490_503.out;have hnb99 := NB503_491.out;have hnc99 := NB491_503.out;have hnb100 := NB503_492.out;have hnc100 := NB492_503.out;have hnb101 := NB503_501.out;have hnc101 := NB501_503.out;obtain ⟨hcz102_0,hcz102_1,hcz102_2,hfz102_0,hfz102_1,hfz102_2⟩ := bR3_ BK503.out;obtain ⟨hcz103_0,hcz103_1,hcz103_2,hfz103_0,hfz103_1,hfz103_2⟩ := bR3_ BK501.out))
         go_ret
         exact fI_ HB.out
       ·replace c31 := Bool.eq_false_iff.mpr c31
        subst c31
        have H1 : (some false) = some r := by rw [if_neg (show ¬ (false = true) by decide)] at H;exact H
        clear H
        have H := H1
        clear H1
        obtain rfl := Option.some.inj H
        have hnb104 := NB491_490.out
        have hnc104 := NB490_491.out
        have hnb105 := NB491_492.out
        have hnc105 := NB492_491.out
        obtain ⟨hcz106_0,hcz106_1,hcz106_2,hcz106_3,hfz106_0,hfz106_1,hfz106_2,hfz106_3⟩ := bR4_ BK491.out
        have hnb107 := NB490_492.out
        have hnc107 := NB492_490.out
        obtain ⟨hcz108_0,hcz108_1,hfz108_0,hfz108_1⟩ := bR2_ BK490.out
        go_wp2_with (first | ((with_reducible refine gate_callee (f := 52) rfl ?_);refine gL_ (some 31) Try.func52 #[.agg #[.slice A1_2 l1_2.length c1_2],.slice A0_0 l0_0.length c0_0,.int .i64 a3] ?_;(with_reducible refine (impl_Locked.calls kj4 _ _ l1_2 _ _ l0_0 a3 false _ ?side1 ?side2 ?side3 ?side4 A20.out).mono ?_);(case side1 => exact cS_ (Kd.C_below HR1_2.out HB.out));(case side2 => exact HC1_2.out);(case side3 => exact cS_ (Kd.C_below HR0_0.out HB.out));(case side4 => exact HC0_0.out);rintro e w109 ⟨rfl,hb⟩;refine ⟨_,rfl,?_⟩;have n0 := aM_ (nB_ BK490.out hb);have n1 := aM_ (nB_ BK491.out hb);have n2 := aM_ (nB_ BK492.out hb);have n3 := aM_ (sT_ HB.out hb);clear BK490;clear BK491;clear BK492;clear HB;have BK490 := n0;have BK491 := n1;have BK492 := n2;have HB := n3;clear n0 n1 n2 n3;obtain ⟨hcz110_0,hcz110_1,hcz110_2,hcz110_3,hfz110_0,hfz110_1,hfz110_2,hfz110_3⟩ := bR4_ BK491.out;obtain ⟨hcz111_0,hcz111_1,hfz111_0,hfz111_1⟩ := bR2_ BK490.out) | ((with_reducible refine gate_callee (f := 50) rfl ?_);refine gL_ (some 38) Try.func50 #[.agg #[.slice A1_2 l1_2.length c1_2],.slice A0_0 l0_0.length c0_0,.int .i64 a3] ?_;(with_reducible refine (impl_ChanIn.calls kj4 _ _ l1_2 _ _ l0_0 a3 t495 t496 t499 false _ ?side1 ?side2 ?side3 ?side4 A28.out).mono ?_);(case side1 => exact cS_ (Kd.C_below HR1_2.out HB.out));(case side2 => exact HC1_2.out);(case side3 => exact cS_ (Kd.C_below HR0_0.out HB.out));(case side4 => exact HC0_0.out);rintro e w112 ⟨v497,rfl,ho0,hb⟩;refine ⟨_,rfl,?_⟩;have n0 := aM_ (Kd.R_lower ho0 (below_size (gB_ HB.out)));have n1 := aM_ (nB_ BK490.out hb);have n2 := aM_ (nB_ BK491.out hb);have n3 := aM_ (nB_ BK492.out hb);have n4 := aM_ (sT_ HB.out hb);clear BK490;clear BK491;clear BK492;clear HB;have HO498 := n0;have BK490 := n1;have BK491 := n2;have BK492 := n3;have HB := n4;clear n0 n1 n2 n3 n4;(try clear ho0)) | ((with_reducible refine gate_dst (N := 9) rfl ?_);(try (refine gate_guard (by rfl) ?_;dsimp only));refine bX_ 9 (cs := #[.int .i64 0,.slice none 0 0,.bool false]) (t := 94) ?_;intro gb501 hg w113 hbox hb;have n0 := aM_ (bR_ HO498.out hb);have n1 := aM_ (nB_ BK490.out hb);have n2 := aM_ (nB_ BK491.out hb);have n3 := aM_ (nB_ BK492.out hb);have n4 := aM_ (sT_ HB.out hb);have n5 := aM_ (hbox);have n6 := aM_ (sZ_ hg HB.out);have n7 := aM_ (sZ_ hg HB.out);have n8 := aM_ (nL_ hg BK490.out);have n9 := aM_ (nG_ hg BK490.out);have n10 := aM_ (nL_ hg BK491.out);have n11 := aM_ (nG_ hg BK491.out);have n12 := aM_ (nL_ hg BK492.out);have n13 := aM_ (nG_ hg BK492.out);clear HO498;clear BK490;clear BK491;clear BK492;clear HB;have HO498 := n0;have BK490 := n1;have BK491 := n2;have BK492 := n3;have HB := n4;have BK501 := n5;have GW501 := n6;have GE501 := n7;have NB490_501 := n8;have NB501_490 := n9;have NB491_501 := n10;have NB501_491 := n11;have NB492_501 := n12;have NB501_492 := n13;clear n0 n1 n2 n3 n4 n5 n6 n7 n8 n9 n10 n11 n12 n13;clear hb hbox hg;have hnb114 := NB501_490.out;have hnc114 := NB490_501.out;have hnb115 := NB501_491.out;have hnc115 := NB491_501.out;have hnb116 := NB501_492.out;have hnc116 := NB492_501.out;obtain ⟨hcz117_0,hcz117_1,hcz117_2,hfz117_0,hfz117_1,hfz117_2⟩ := bR3_ BK501.out;obtain ⟨Ao118,co118,eo118⟩ := Kd.R_slice HO498.out;subst eo118;obtain ⟨hcz119_0,hcz119_1,hcz119_2,hfz119_0,hfz119_1,hfz119_2⟩ := bR3_ BK492.out;have p502 : 0 ≤ (a3 : Int) := of_decide_eq_true (by first | (with_reducible assumption) | assumption);have q502 : a3 < (l2_1.length : Int) := of_decide_eq_true (by first | (with_reducible assumption) | assumption);obtain ⟨ad502,A502_1,c502_1,e502,hx502_0,hx502_1,hx502_2,hl502_1,hi502_1⟩ := at_T94 HR2_1.out a3 p502 q502;cases e502;have hn502_0 : ad502.block ≠ gb501 := nE_ hx502_0 GW501.out;have hn502_1 : ad502.block ≠ gb501 := nE_ hx502_0 GW501.out;have hn502_2 : ad502.block ≠ gb501 := nE_ hx502_0 GW501.out;replace hx502_0 := cB_ HB.out hx502_0;replace hx502_1 := cB_ HB.out hx502_1;replace hx502_2 := cB_ HB.out hx502_2;have HR502_1 := aM_ hi502_1;have HC502_1 := aM_ hl502_1;clear hi502_1 hl502_1;replace hx502_0 := cF_ ⟨gb501,0,none⟩ hn502_0 (.int .i64 t495) hx502_0;replace hx502_1 := cF_ ⟨gb501,0,none⟩ hn502_0 (.int .i64 t495) hx502_1;replace hx502_2 := cF_ ⟨gb501,0,none⟩ hn502_0 (.int .i64 t495) hx502_2;replace hx502_0 := cF_ ⟨gb501,1,none⟩ hn502_1 (.slice Ao118 t496.length co118) hx502_0;replace hx502_1 := cF_ ⟨gb501,1,none⟩ hn502_1 (.slice Ao118 t496.length co118) hx502_1;replace hx502_2 := cF_ ⟨gb501,1,none⟩ hn502_1 (.slice Ao118 t496.length co118) hx502_2;replace hx502_0 := cF_ ⟨gb501,2,none⟩ hn502_2 (.bool t499) hx502_0;replace hx502_1 := cF_ ⟨gb501,2,none⟩ hn502_2 (.bool t499) hx502_1;replace hx502_2 := cF_ ⟨gb501,2,none⟩ hn502_2 (.bool t499) hx502_2;clear hn502_0;clear hn502_1;clear hn502_2;replace p502 := eq_true p502;replace q502 := eq_true q502) | ((with_reducible refine gate_dst (N := 11) rfl ?_);(try (refine gate_guard (by rfl) ?_;dsimp only));refine bX_ 11 (cs := #[.int .i64 0,.slice none 0 0,.bool false]) (t := 94) ?_;intro gb503 hg w120 hbox hb;have n0 := aM_ (Kd.R_below (by (with_reducible repeat (first | apply rA_ | apply rN_ | apply rD_));exact (Kd.R_mono (Kd.R_far (p := ⟨gb501,2,none⟩) (Kd.R_far (p := ⟨gb501,1,none⟩) (Kd.R_far (p := ⟨gb501,0,none⟩) (Kd.R_types HO498.out BK501.out (by decide)) (fun _ hk => hk.2) (.int .i64 t495)) (fun _ hk => hk.2) (.slice Ao118 t496.length co118)) (fun _ hk => hk.2) (.bool t499)) (fun _ h_ => h_.1))) hb);have n1 := aM_ (nBf_ BK490.out hb);have n2 := aM_ (nBf_ BK491.out hb);have n3 := aM_ (nBf_ BK492.out hb);have n4 := aM_ (blk_below (g := gb501) (o := .cells #[.int .i64 t495,.slice Ao118 t496.length co118,.bool t499] 94 (0,0)) (by (with_reducible repeat (first | refine bN_ ?_ _ | refine bD_ ?_ | refine bA_ ?_ _));refine blk_put (cs := #[.int .i64 t495,.slice Ao118 t496.length co118,.bool false]) ?_ 2 _ rfl;refine blk_put (cs := #[.int .i64 t495,.slice none 0 0,.bool false]) ?_ 1 _ rfl;refine blk_put (cs := #[.int .i64 0,.slice none 0 0,.bool false]) ?_ 0 _ rfl;exact rW_ BK501.out) hb);have n5 := aM_ (sT_ HB.out hb);have n6 := aM_ (hbox);have n7 := aM_ (sZ_ hg HB.out);have n8 := aM_ (sZ_ hg HB.out);have n9 := aM_ (nLf_ hg BK490.out);have n10 := aM_ (nGf_ hg BK490.out);have n11 := aM_ (nLf_ hg BK491.out);have n12 := aM_ (nGf_ hg BK491.out);have n13 := aM_ (nLf_ hg BK492.out);have n14 := aM_ (nGf_ hg BK492.out);have n15 := aM_ ((by rw [hg];exact Nat.ne_of_lt (blk_lt (g := gb501) (o := .cells #[.int .i64 t495,.slice Ao118 t496.length co118,.bool t499] 94 (0,0)) (by (with_reducible repeat (first | refine bN_ ?_ _ | refine bD_ ?_ | refine bA_ ?_ _));refine blk_put (cs := #[.int .i64 t495,.slice Ao118 t496.length co118,.bool false]) ?_ 2 _ rfl;refine blk_put (cs := #[.int .i64 t495,.slice none 0 0,.bool false]) ?_ 1 _ rfl;refine blk_put (cs := #[.int .i64 0,.slice none 0 0,.bool false]) ?_ 0 _ rfl;exact rW_ BK501.out)) : gb501 ≠ gb503));have n16 := aM_ ((by rw [hg];exact Nat.ne_of_gt (blk_lt (g := gb501) (o := .cells #[.int .i64 t495,.slice Ao118 t496.length co118,.bool t499] 94 (0,0)) (by (with_reducible repeat (first | refine bN_ ?_ _ | refine bD_ ?_ | refine bA_ ?_ _));refine blk_put (cs := #[.int .i64 t495,.slice Ao118 t496.length co118,.bool false]) ?_ 2 _ rfl;refine blk_put (cs := #[.int .i64 t495,.slice none 0 0,.bool false]) ?_ 1 _ rfl;refine blk_put (cs := #[.int .i64 0,.slice none 0 0,.bool false]) ?_ 0 _ rfl;exact rW_ BK501.out)) : gb503 ≠ gb501));clear HO498;clear BK490;clear BK491;clear BK492;clear BK501;clear HB;have HO498 := n0;have BK490 := n1;have BK491 := n2;have BK492 := n3;have BK501 := n4;have HB := n5;have BK503 := n6;have GW503 := n7;have GE503 := n8;have NB490_503 := n9;have NB503_490 := n10;have NB491_503 := n11;have NB503_491 := n12;have NB492_503 := n13;have NB503_492 := n14;have NB501_503 := n15;have NB503_501 := n16;clear n0 n1 n2 n3 n4 n5 n6 n7 n8 n9 n10 n11 n12 n13 n14 n15 n16;clear hb hbox hg;have hnb121 := NB503_490.out;have hnc121 := NB490_503.out;have hnb122 := NB503_491.out;have hnc122 := NB491_503.out;have hnb123 := NB503_492.out;have hnc123 := NB492_503.out;have hnb124 := NB503_501.out;have hnc124 := NB501_503.out;obtain ⟨hcz125_0,hcz125_1,hcz125_2,hfz125_0,hfz125_1,hfz125_2⟩ := bR3_ BK503.out))
        go_ret
        exact fI_ HB.out
      ·rw [if_neg c30] at H
       exact absurd H (by simp)
     ·rw [if_neg c29] at H
      exact absurd H (by simp)
end Go.Proofs.Ytobachfngmpeiaa.PFnExactChanSame
namespace Go.Proofs.Ytobachfngmpeiaa.Marks
open Go.RowKit Go.Proofs.YtobachfngmpeiaaW.PrintWords Go.Proofs.YtobachfngmpeiaaW.PrintLast Go.Proofs.YtobachfngmpeiaaW.PrintMore
set_option linter.unusedVariables false
def Sc (v v' : Value) : Prop := v' = v ∨ (∃ k n n',v = .int k n ∧ v' = .int k n') ∨ (∃ b b',v = .bool b ∧ v' = .bool b')
theorem Sc.refl (v : Value) : Sc v v := .inl rfl
theorem Sc.trans {a b c : Value} (h : Sc a b) (k : Sc b c) : Sc a c := by
  rcases h with rfl | ⟨_,_,_,rfl,rfl⟩ | ⟨_,_,rfl,rfl⟩
  · exact k
  · rcases k with rfl | ⟨_,_,n',h1,rfl⟩ | ⟨_,_,h1,_⟩
    · exact .inr (.inl ⟨_,_,_,rfl,rfl⟩)
    · cases h1
      exact .inr (.inl ⟨_,_,_,rfl,rfl⟩)
    · cases h1
  · rcases k with rfl | ⟨_,_,_,h1,_⟩ | ⟨_,b',h1,rfl⟩
    · exact .inr (.inr ⟨_,_,rfl,rfl⟩)
    · cases h1
    · exact .inr (.inr ⟨_,_,rfl,rfl⟩)
def Mk (P : Nat → Prop) (w w' : World) : Prop := Kept w w' P ∧ Below 0 w w' ∧ ∀ (g : Nat) (cs : Array Value) (t : TypeId),w.heap[g]? = some (.cells cs t (0,0)) → ∃ cs' : Array Value,w'.heap[g]? = some (.cells cs' t (0,0)) ∧ ∀ (j : Nat) v,cs[j]? = some v → ∃ v',cs'[j]? = some v' ∧ Sc v v'
section
variable {P P' : Nat → Prop} {w w' w1 W : World}
theorem Mk.refl (P : Nat → Prop) (w : World) : Mk P w w := ⟨Kept.refl w P,Below.refl _ _,fun g cs t h => ⟨cs,h,fun j v hj => ⟨v,hj,Sc.refl v⟩⟩⟩
theorem Mk.trans (h : Mk P w w1) (k : Mk P w1 w') : Mk P w w' := by
  refine ⟨h.1.then_ k.1 (fun _ h2 => .inl h2),h.2.1.trans k.2.1,fun g cs t hg => ?_⟩
  obtain ⟨cs1,h1,e1⟩ := h.2.2 g cs t hg
  obtain ⟨cs2,h2,e2⟩ := k.2.2 g cs1 t h1
  refine ⟨cs2,h2,fun j v hj => ?_⟩
  obtain ⟨v1,hv1,s1⟩ := e1 j v hj
  obtain ⟨v2,hv2,s2⟩ := e2 j v1 hv1
  exact ⟨v2,hv2,s1.trans s2⟩
theorem Mk.mono (h : Mk P w w') (hp : ∀ k,P k → P' k) : Mk P' w w' := ⟨h.1.mono hp,h.2⟩
theorem Mk.drewN (h : Mk P w W) (n : Nat) : Mk P w (W.drewN n) := ⟨h.1,pw_below_drewN h.2.1 n,h.2.2⟩
theorem Mk.drew (h : Mk P w W) : Mk P w W.drew := ⟨h.1,below_drew h.2.1,h.2.2⟩
theorem Mk.below (h : Mk P w w') {B : Nat} (hB : B ≤ w.heap.size) (hP : ∀ k,P k → B ≤ k) : Below B w w' := ⟨h.2.1.os,h.2.1.tape,h.2.1.output,h.2.1.size,fun k hk => h.1.2 k (Nat.lt_of_lt_of_le hk hB) (fun hp => by have := hP k hp;omega)⟩
theorem below_set0 (W : World) (a : Addr) (u : Value) : Below 0 W (W.setCell a u) := ⟨rfl,rfl,rfl,by simp [World.setCell],fun k hk => by omega⟩
theorem Mk.of_below (hb : Below w.heap.size w w') : Mk P w w' := ⟨Kept.of_below hb P,hb.mono (Nat.zero_le _),fun g cs t hg => ⟨cs,(hb.block g (blk_lt hg)).trans hg,fun j v hj => ⟨v,hj,Sc.refl v⟩⟩⟩
theorem Mk.set (h : Mk P w W) {g o : Nat} (hP : P g) {v u : Value} (hc : W.cell? ⟨g,o,none⟩ = some v) (hs : Sc v u) : Mk P w (W.setCell ⟨g,o,none⟩ u) := by
  refine ⟨h.1.setCell (.inl hP) u,h.2.1.trans (below_set0 _ _ _),fun g' cs t hg => ?_⟩
  obtain ⟨cs1,h1,e1⟩ := h.2.2 g' cs t hg
  by_cases e : g' = g
  · subst e
    refine ⟨_,blk_set h1 o u,fun j v0 hj => ?_⟩
    obtain ⟨v1,hv1,s1⟩ := e1 j v0 hj
    by_cases ej : j = o
    · subst ej
      have hv : v1 = v := Option.some.inj (hv1.symm.trans ((blk_cell h1 j).symm.trans hc))
      subst hv
      have hlt : j < cs1.size := (Array.getElem?_eq_some_iff.1 hv1).1
      exact ⟨u,by rw [Array.getElem?_setIfInBounds_self];simp [hlt],s1.trans hs⟩
    · exact ⟨v1,by rw [Array.getElem?_setIfInBounds_ne (Ne.symm ej)];exact hv1,s1⟩
  · exact ⟨cs1,(Below.heap_setCell W ⟨g,o,none⟩ u g' e).trans h1,e1⟩
end
def IntAt (w : World) (g o : Nat) : Prop := ∃ (cs : Array Value) (t : TypeId) (n : Int),w.heap[g]? = some (.cells cs t (0,0)) ∧ cs[o]? = some (.int .i64 n)
def BoolAt (w : World) (g o : Nat) : Prop := ∃ (cs : Array Value) (t : TypeId) (b : Bool),w.heap[g]? = some (.cells cs t (0,0)) ∧ cs[o]? = some (.bool b)
def SlAt (w : World) (g o : Nat) (A : Option Addr) (n c : Nat) : Prop := ∃ (cs : Array Value) (t : TypeId),w.heap[g]? = some (.cells cs t (0,0)) ∧ cs[o]? = some (.slice A n c)
section
variable {P : Nat → Prop} {w w' : World} {g o n c : Nat} {A : Option Addr}
theorem IntAt.mk (h : IntAt w g o) (k : Mk P w w') : IntAt w' g o := by
  obtain ⟨cs,t,n,h1,h2⟩ := h
  obtain ⟨cs',h3,e⟩ := k.2.2 g cs t h1
  obtain ⟨v',h4,s⟩ := e o _ h2
  rcases s with rfl | ⟨_,_,n',h5,rfl⟩ | ⟨_,_,h5,_⟩
  · exact ⟨cs',t,n,h3,h4⟩
  · cases h5
    exact ⟨cs',t,n',h3,h4⟩
  · cases h5
theorem BoolAt.mk (h : BoolAt w g o) (k : Mk P w w') : BoolAt w' g o := by
  obtain ⟨cs,t,n,h1,h2⟩ := h
  obtain ⟨cs',h3,e⟩ := k.2.2 g cs t h1
  obtain ⟨v',h4,s⟩ := e o _ h2
  rcases s with rfl | ⟨_,_,n',h5,rfl⟩ | ⟨_,b',h5,rfl⟩
  · exact ⟨cs',t,n,h3,h4⟩
  · cases h5
  · exact ⟨cs',t,b',h3,h4⟩
theorem SlAt.mk (h : SlAt w g o A n c) (k : Mk P w w') : SlAt w' g o A n c := by
  obtain ⟨cs,t,h1,h2⟩ := h
  obtain ⟨cs',h3,e⟩ := k.2.2 g cs t h1
  obtain ⟨v',h4,s⟩ := e o _ h2
  rcases s with rfl | ⟨_,_,n',h5,rfl⟩ | ⟨_,b',h5,rfl⟩
  · exact ⟨cs',t,h3,h4⟩
  · cases h5
  · cases h5
theorem IntAt.cell (h : IntAt w g o) : ∃ n,w.cell? ⟨g,o,none⟩ = some (.int .i64 n) ∧ w.frozen? ⟨g,o,none⟩ = false := by
  obtain ⟨cs,t,n,h1,h2⟩ := h
  exact ⟨n,(blk_cell h1 o).trans h2,blk_frozen h1 o⟩
theorem BoolAt.cell (h : BoolAt w g o) : ∃ n,w.cell? ⟨g,o,none⟩ = some (.bool n) ∧ w.frozen? ⟨g,o,none⟩ = false := by
  obtain ⟨cs,t,n,h1,h2⟩ := h
  exact ⟨n,(blk_cell h1 o).trans h2,blk_frozen h1 o⟩
theorem SlAt.cell (h : SlAt w g o A n c) : w.cell? ⟨g,o,none⟩ = some (.slice A n c) := by
  obtain ⟨cs,t,h1,h2⟩ := h
  exact (blk_cell h1 o).trans h2
end
abbrev Cel := Nat × Nat × Bool
def cellv (b : Bool) (k : Int) : Value := if b = true then .bool (decide (Int.tmod k 3 = 0)) else .int .i64 k
def writes : World → List Cel → Int → World
  | w,[],_ => w
  | w,c :: L,k => writes (w.setCell ⟨c.1,c.2.1,none⟩ (cellv c.2.2 k)) L (k + 1)
theorem writes_append : ∀ (L M : List Cel) (w : World) (k : Int),writes w (L ++ M) k = writes (writes w L k) M (k + L.length)
  | [],M,w,k => by simp [writes]
  | c :: L,M,w,k => by
    rw [List.cons_append,writes,writes,writes_append L M,List.length_cons]
    congr 1
    omega
theorem drewN_set (w : World) (n : Nat) (a : Addr) (v : Value) : (w.drewN n).setCell a v = (w.setCell a v).drewN n := rfl
theorem writes_drewN : ∀ (L : List Cel) (w : World) (n : Nat) (k : Int),writes (w.drewN n) L k = (writes w L k).drewN n
  | [],w,n,k => rfl
  | c :: L,w,n,k => by
    rw [writes,writes,drewN_set,writes_drewN L]
def Wr (w : World) (L : List Cel) (k : Int) (w' : World) : Prop := ∃ n,w' = (writes w L k).drewN n
section
variable {w w' w1 w2 : World} {L M : List Cel} {k k2 : Int}
theorem Wr.refl (w : World) (k : Int) : Wr w [] k w := ⟨0,rfl⟩
theorem Wr.drewN (h : Wr w L k w') (n : Nat) : Wr w L k (w'.drewN n) := by
  obtain ⟨m,rfl⟩ := h
  exact ⟨m + n,World.drewN_drewN ..⟩
theorem Wr.trans (h : Wr w L k w1) (h2 : Wr w1 M k2 w2) (e : k2 = k + L.length) : Wr w (L ++ M) k w2 := by
  obtain ⟨m,rfl⟩ := h
  obtain ⟨n,rfl⟩ := h2
  subst e
  rw [writes_drewN,← writes_append]
  exact ⟨m + n,World.drewN_drewN ..⟩
theorem Wr.set (h : Wr w L k w') {g o : Nat} (b : Bool) {v : Value} (e : v = cellv b (k + L.length)) : Wr w (L ++ [(g,o,b)]) k (w'.setCell ⟨g,o,none⟩ v) :=
  h.trans (k2 := k + L.length) (M := [(g,o,b)]) ⟨0,by subst e;rfl⟩ rfl
end
inductive Ty where
  | int | bool | pair (a b : Ty) | sl (a : Ty)
def Ty.sz : Ty → Nat
  | .int => 1
  | .bool => 1
  | .sl _ => 1
  | .pair a b => a.sz + b.sz
def cat (Ls : Nat → List Cel) (n : Nat) : List Cel := (List.range n).flatMap Ls
theorem cat_succ (Ls : Nat → List Cel) (n : Nat) : cat Ls (n + 1) = cat Ls n ++ Ls n := by simp [cat,List.range_succ]
def Vis (P : Nat → Prop) (w : World) : Ty → Nat → Nat → List Cel → Prop
  | .int,g,o,L => L = [(g,o,false)] ∧ IntAt w g o
  | .bool,g,o,L => L = [(g,o,true)] ∧ BoolAt w g o
  | .pair a b,g,o,L => ∃ L1 L2,L = L1 ++ L2 ∧ Vis P w a g o L1 ∧ Vis P w b g (o + a.sz) L2
  | .sl a,g,o,L => ∃ A n c,SlAt w g o A n c ∧ n ≤ 9223372036854775807 ∧ ∃ Ls,L = cat Ls n ∧ (0 < n → ∃ g',A = some ⟨g',0,none⟩ ∧ P g' ∧ ∀ i,i < n → Vis P w a g' (i * a.sz) (Ls i))
def RowV (P : Nat → Prop) (w : World) (a : Ty) (A : Option Addr) (n : Nat) (L : List Cel) : Prop := n ≤ 9223372036854775807 ∧ ∃ Ls,L = cat Ls n ∧ (0 < n → ∃ g',A = some ⟨g',0,none⟩ ∧ P g' ∧ ∀ i,i < n → Vis P w a g' (i * a.sz) (Ls i))
theorem Vis.mk {P Q : Nat → Prop} {w w' : World} (k : Mk Q w w') : ∀ {t : Ty} {g o : Nat} {L : List Cel},Vis P w t g o L → Vis P w' t g o L
  | .int,g,o,L,h => ⟨h.1,h.2.mk k⟩
  | .bool,g,o,L,h => ⟨h.1,h.2.mk k⟩
  | .pair a b,g,o,L,⟨L1,L2,e,h1,h2⟩ => ⟨L1,L2,e,Vis.mk k h1,Vis.mk k h2⟩
  | .sl a,g,o,L,⟨A,n,c,hs,hb,Ls,e,h⟩ => ⟨A,n,c,hs.mk k,hb,Ls,e,fun hn => by
    obtain ⟨g',e',hp,hi⟩ := h hn
    exact ⟨g',e',hp,fun i hl => Vis.mk k (hi i hl)⟩⟩
theorem RowV.mk {P Q : Nat → Prop} {w w' : World} (k : Mk Q w w') {t : Ty} {A : Option Addr} {n : Nat} {L : List Cel} (h : RowV P w t A n L) : RowV P w' t A n L := by
  obtain ⟨hb,Ls,e,h⟩ := h
  exact ⟨hb,Ls,e,fun hn => by
    obtain ⟨g',e',hp,hi⟩ := h hn
    exact ⟨g',e',hp,fun i hl => Vis.mk k (hi i hl)⟩⟩
def HeldAt (w : World) (L : List Cel) (k : Int) : Prop := ∀ (j : Nat) (c : Cel),L[j]? = some c → w.cell? ⟨c.1,c.2.1,none⟩ = some (cellv c.2.2 (k + j))
section
variable {w w' : World} {L M : List Cel} {k : Int}
theorem HeldAt.left (h : HeldAt w (L ++ M) k) : HeldAt w L k := fun j c hj => h j c (by rw [List.getElem?_append_left (List.getElem?_eq_some_iff.1 hj).1];exact hj)
theorem HeldAt.right (h : HeldAt w (L ++ M) k) : HeldAt w M (k + L.length) := fun j c hj => by
  have := h (L.length + j) c (by rw [List.getElem?_append_right (by omega),Nat.add_sub_cancel_left];exact hj)
  rw [this]
  congr 2
  push_cast
  omega
theorem HeldAt.one {g o : Nat} {b : Bool} (h : HeldAt w [(g,o,b)] k) : w.cell? ⟨g,o,none⟩ = some (cellv b k) := by
  have := h 0 (g,o,b) rfl
  simpa using this
theorem HeldAt.cat {Ls : Nat → List Cel} {n j : Nat} (h : HeldAt w (cat Ls n) k) (hj : j < n) : HeldAt w (Ls j) (k + (Marks.cat Ls j).length) := by
  have e : ∃ T,Marks.cat Ls n = Marks.cat Ls j ++ (Ls j ++ T) := by
    have h1 : ∀ d,∃ T,Marks.cat Ls (j + 1 + d) = Marks.cat Ls (j + 1) ++ T := by
      intro d
      induction d with
      | zero => exact ⟨[],by simp⟩
      | succ d ih =>
        obtain ⟨T,e⟩ := ih
        exact ⟨T ++ Ls (j + 1 + d),by rw [← Nat.add_assoc,cat_succ Ls (j + 1 + d),e,List.append_assoc]⟩
    obtain ⟨T,e⟩ := h1 (n - (j + 1))
    rw [show j + 1 + (n - (j + 1)) = n by omega,cat_succ,List.append_assoc] at e
    exact ⟨T,e⟩
  obtain ⟨T,e⟩ := e
  rw [e] at h
  exact h.right.left
end
theorem RowV.drewN {P : Nat → Prop} {w : World} {t : Ty} {A : Option Addr} {n : Nat} {L : List Cel} (h : RowV P w t A n L) (m : Nat) : RowV P (w.drewN m) t A n L := RowV.mk (Q := fun _ => False) ((Mk.refl _ w).drewN m) h
theorem HeldAt.drewN {w : World} {L : List Cel} {k : Int} (h : HeldAt w L k) (m : Nat) : HeldAt (w.drewN m) L k := h
theorem wrap_in {n : Int} (h0 : -9223372036854775808 ≤ n) (h1 : n ≤ 9223372036854775807) : wrap64 n = n := by
  unfold wrap64
  omega
end Go.Proofs.Ytobachfngmpeiaa.Marks
namespace Go.Proofs.Ytobachfngmpeiaa.Marks
open Go.RowKit Go.Proofs.YtobachfngmpeiaaW.PrintWords Go.Proofs.YtobachfngmpeiaaW.PrintLast Go.Proofs.YtobachfngmpeiaaW.PrintMore
set_option linter.unusedVariables false
set_option linter.unusedSimpArgs false
def addr2 (c : Cel) : Nat × Nat := (c.1,c.2.1)
def CellAt (w : World) (g o : Nat) : Prop := ∃ (cs : Array Value) (t : TypeId),w.heap[g]? = some (.cells cs t (0,0)) ∧ o < cs.size
section
variable {P Q : Nat → Prop} {w w' w0 w1 w2 W W' : World} {g o n : Nat} {k k2 : Int} {L M : List Cel} {A : Option Addr} {t : Ty}
theorem CellAt.set (h : CellAt w g o) (b p : Nat) (v : Value) : CellAt (w.setCell ⟨b,p,none⟩ v) g o := by
  obtain ⟨cs,t,h1,h2⟩ := h
  by_cases e : g = b
  · subst e
    exact ⟨_,t,blk_set h1 p v,by simpa using h2⟩
  · exact ⟨cs,t,blk_far h1 (p := ⟨b,p,none⟩) e v,h2⟩
theorem IntAt.at_ (h : IntAt w g o) : CellAt w g o := by
  obtain ⟨cs,t,n,h1,h2⟩ := h
  exact ⟨cs,t,h1,(Array.getElem?_eq_some_iff.1 h2).1⟩
theorem BoolAt.at_ (h : BoolAt w g o) : CellAt w g o := by
  obtain ⟨cs,t,n,h1,h2⟩ := h
  exact ⟨cs,t,h1,(Array.getElem?_eq_some_iff.1 h2).1⟩
theorem CellAt.self (h : CellAt w g o) (v : Value) : (w.setCell ⟨g,o,none⟩ v).cell? ⟨g,o,none⟩ = some v := by
  obtain ⟨cs,t,h1,h2⟩ := h
  rw [blk_cell (blk_set h1 o v) o,Array.getElem?_setIfInBounds_self]
  simp [h2]
theorem writes_other : ∀ (L : List Cel) (w : World) (k : Int) (g o : Nat),(g,o) ∉ L.map addr2 → (writes w L k).cell? ⟨g,o,none⟩ = w.cell? ⟨g,o,none⟩
  | [],w,k,g,o,_ => rfl
  | c :: L,w,k,g,o,h => by
    rw [List.map_cons,List.mem_cons,not_or] at h
    rw [writes,writes_other L _ _ _ _ h.2]
    exact World.cell?_setCell_other (w := w) (a := ⟨c.1,c.2.1,none⟩) (b := ⟨g,o,none⟩) (v := cellv c.2.2 k) (h := fun e => h.1 (by injection e with e1 e2;rw [addr2,e1,e2]))
theorem held_writes : ∀ (L : List Cel) (w : World) (k : Int),(∀ c ∈ L,CellAt w c.1 c.2.1) → (L.map addr2).Nodup → HeldAt (writes w L k) L k
  | [],w,k,_,_ => fun j c hj => by simp at hj
  | c :: L,w,k,hc,hn => by
    rw [List.map_cons,List.nodup_cons] at hn
    intro j d hj
    cases j with
    | zero =>
      have e : d = c := by simpa using hj.symm
      subst e
      rw [writes,writes_other L _ _ d.1 d.2.1 (by exact hn.1),(hc d List.mem_cons_self).self]
      simp
    | succ j =>
      have h2 := held_writes L (w.setCell ⟨c.1,c.2.1,none⟩ (cellv c.2.2 k)) (k + 1) (fun d hd => (hc d (List.mem_cons_of_mem _ hd)).set _ _ _) hn.2 j d (by simpa using hj)
      rw [writes,h2]
      congr 2
      push_cast
      omega
theorem HeldAt.of_heap (h : HeldAt w L k) (hh : ∀ c ∈ L,w'.heap[c.1]? = w.heap[c.1]?) : HeldAt w' L k := fun j c hj => by
  have := hh c (List.mem_of_getElem? hj)
  rw [← h j c hj]
  simp [World.cell?,this]
theorem set_heap (w w' : World) (a : Addr) (v : Value) (g : Nat) (h : w.heap[g]? = w'.heap[g]?) : (w.setCell a v).heap[g]? = (w'.setCell a v).heap[g]? := by
  simp only [World.setCell,Array.getElem?_modify,h]
theorem writes_local : ∀ (L : List Cel) (w w' : World) (k : Int) (g : Nat),w.heap[g]? = w'.heap[g]? → (writes w L k).heap[g]? = (writes w' L k).heap[g]?
  | [],w,w',k,g,h => h
  | c :: L,w,w',k,g,h => by
    rw [writes,writes]
    exact writes_local L _ _ _ g (set_heap _ _ _ _ _ h)
def WrB (w : World) (L : List Cel) (k : Int) (w' : World) : Prop := ∀ g,g < w.heap.size → w'.heap[g]? = (writes w L k).heap[g]?
theorem Wr.B (h : Wr w L k w') : WrB w L k w' := by
  obtain ⟨n,rfl⟩ := h
  exact fun g _ => rfl
theorem WrB.nil (hb : Below w.heap.size w w') : WrB w [] k w' := fun g hg => hb.block g hg
theorem WrB.trans (h : WrB w L k w1) (hs : w.heap.size ≤ w1.heap.size) (h2 : WrB w1 M k2 w2) (e : k2 = k + L.length) : WrB w (L ++ M) k w2 := fun g hg => by
  rw [h2 g (Nat.lt_of_lt_of_le hg hs),writes_append,e]
  exact writes_local M _ _ _ g (h g hg)
theorem WrB.held (h : WrB w L k w') (hc : ∀ c ∈ L,CellAt w c.1 c.2.1) (hn : (L.map addr2).Nodup) : HeldAt w' L k :=
  (held_writes L w k hc hn).of_heap (fun c hm => by
    obtain ⟨cs,t,h1,_⟩ := hc c hm
    exact h c.1 (blk_lt h1))
theorem Vis.cells : ∀ {t : Ty} {g o : Nat} {L : List Cel},Vis P w t g o L → ∀ c ∈ L,CellAt w c.1 c.2.1 ∧ (c.1 = g ∨ P c.1)
  | .int,g,o,L,h,c,hm => by
    obtain ⟨rfl,h2⟩ := h
    obtain rfl := List.mem_singleton.1 hm
    exact ⟨h2.at_,.inl rfl⟩
  | .bool,g,o,L,h,c,hm => by
    obtain ⟨rfl,h2⟩ := h
    obtain rfl := List.mem_singleton.1 hm
    exact ⟨h2.at_,.inl rfl⟩
  | .pair a b,g,o,L,⟨L1,L2,e,h1,h2⟩,c,hm => by
    subst e
    rcases List.mem_append.1 hm with hm | hm
    · exact Vis.cells h1 c hm
    · exact Vis.cells h2 c hm
  | .sl a,g,o,L,⟨A,n,cp,hs,hb,Ls,e,h⟩,c,hm => by
    subst e
    obtain ⟨i,hi,hm⟩ := List.mem_flatMap.1 hm
    rw [List.mem_range] at hi
    obtain ⟨g',e',hp,hv⟩ := h (by omega)
    obtain ⟨h1,h2⟩ := Vis.cells (hv i hi) c hm
    exact ⟨h1,.inr (h2.elim (fun e => e ▸ hp) id)⟩
theorem RowV.cells (h : RowV P w t A n L) : ∀ c ∈ L,CellAt w c.1 c.2.1 ∧ P c.1 := fun c hm => by
  obtain ⟨hb,Ls,e,h⟩ := h
  subst e
  obtain ⟨i,hi,hm⟩ := List.mem_flatMap.1 hm
  rw [List.mem_range] at hi
  obtain ⟨g',e',hp,hv⟩ := h (by omega)
  obtain ⟨h1,h2⟩ := Vis.cells (hv i hi) c hm
  exact ⟨h1,h2.elim (fun e => e ▸ hp) id⟩
theorem Vis.mono (hp : ∀ k,P k → Q k) : ∀ {t : Ty} {g o : Nat} {L : List Cel},Vis P w t g o L → Vis Q w t g o L
  | .int,_,_,_,h => h
  | .bool,_,_,_,h => h
  | .pair a b,_,_,_,⟨L1,L2,e,h1,h2⟩ => ⟨L1,L2,e,Vis.mono hp h1,Vis.mono hp h2⟩
  | .sl a,_,_,_,⟨A,n,c,hs,hb,Ls,e,h⟩ => ⟨A,n,c,hs,hb,Ls,e,fun hn => by
    obtain ⟨g',e',hp',hi⟩ := h hn
    exact ⟨g',e',hp _ hp',fun i hl => Vis.mono hp (hi i hl)⟩⟩
theorem RowV.mono (hp : ∀ k,P k → Q k) (h : RowV P w t A n L) : RowV Q w t A n L := by
  obtain ⟨hb,Ls,e,h⟩ := h
  exact ⟨hb,Ls,e,fun hn => by
    obtain ⟨g',e',hp',hi⟩ := h hn
    exact ⟨g',e',hp _ hp',fun i hl => Vis.mono hp (hi i hl)⟩⟩
end
structure Rep {α : Type} (d : Kd α) (T : Ty) (wt : α → Nat) : Prop where
  sz : d.sz = T.sz
  vis : ∀ {w : World} {base : Nat} {ok : Nat → Prop} {x : α} {cs : List Value},d.M w base ok x cs → ∀ (g o : Nat) (cells : Array Value) (t : TypeId),w.heap[g]? = some (.cells cells t (0,0)) → (∀ i u,cs[i]? = some u → cells[o + i]? = some u) → ∃ L,Vis ok w T g o L ∧ L.length = wt x
theorem Rep.int : Rep (Kd.int .i64) .int (fun _ => 1) := ⟨rfl,fun {w base ok x cs} hM g o cells t hb hc => by
  have e : cs = [.int .i64 x] := hM
  subst e
  exact ⟨_,⟨rfl,cells,t,x,hb,by simpa using hc 0 _ rfl⟩,rfl⟩⟩
theorem Rep.bool : Rep Kd.bool .bool (fun _ => 1) := ⟨rfl,fun {w base ok x cs} hM g o cells t hb hc => by
  have e : cs = [.bool x] := hM
  subst e
  exact ⟨_,⟨rfl,cells,t,x,hb,by simpa using hc 0 _ rfl⟩,rfl⟩⟩
theorem Rep.pair {α β : Type} {a : Kd α} {b : Kd β} {S T : Ty} {wa : α → Nat} {wb : β → Nat} (ha : Rep a S wa) (hb : Rep b T wb) : Rep (Kd.pair a b) (.pair S T) (fun x => wa x.1 + wb x.2) :=
  ⟨by show a.sz + b.sz = S.sz + T.sz;rw [ha.sz,hb.sz],fun {w base ok x cs} hM g o cells t hbk hc => by
    obtain ⟨c0,c1,rfl,h0,h1⟩ := hM
    have l0 : c0.length = S.sz := by rw [a.K_len (a.K_of_M h0),ha.sz]
    obtain ⟨L1,v1,e1⟩ := ha.vis h0 g o cells t hbk (fun i u hi => hc i u (by rw [List.getElem?_append_left (List.getElem?_eq_some_iff.1 hi).1];exact hi))
    obtain ⟨L2,v2,e2⟩ := hb.vis h1 g (o + S.sz) cells t hbk (fun i u hi => by
      have := hc (S.sz + i) u (by rw [List.getElem?_append_right (by omega),l0,Nat.add_sub_cancel_left];exact hi)
      rwa [← Nat.add_assoc] at this)
    exact ⟨L1 ++ L2,⟨L1,L2,rfl,v1,v2⟩,by rw [List.length_append,e1,e2]⟩⟩
theorem Rep.iso {α β : Type} {d : Kd α} {T : Ty} {wt : α → Nat} (h : Rep d T wt) (f : β → α) : Rep (Kd.iso d f) T (fun x => wt (f x)) := ⟨h.sz,fun {w base ok x cs} hM => h.vis hM⟩
def wsum {α : Type} (wt : α → Nat) : List α → Nat
  | [] => 0
  | x :: r => wt x + wsum wt r
theorem cat_len {α : Type} (wt : α → Nat) : ∀ (xs : List α) (Ls : Nat → List Cel),(∀ i x,xs[i]? = some x → (Ls i).length = wt x) → (cat Ls xs.length).length = wsum wt xs := by
  intro xs Ls h
  have key : ∀ n,n ≤ xs.length → (cat Ls n).length = wsum wt (xs.take n) := by
    intro n
    induction n with
    | zero => intro _;simp [cat,wsum]
    | succ n ih =>
      intro hn
      have hw : ∀ (a b : List α),wsum wt (a ++ b) = wsum wt a + wsum wt b := by
        intro a b
        induction a with
        | nil => simp [wsum]
        | cons y r ih => rw [List.cons_append,wsum,wsum,ih];omega
      rw [cat_succ,List.length_append,ih (by omega),List.take_succ_eq_append_getElem (show n < xs.length by omega),hw,h n xs[n] (List.getElem?_eq_getElem (by omega))]
      simp [wsum]
  rw [key xs.length (Nat.le_refl _),List.take_length]
theorem Rep.row {α : Type} {d : Kd α} {T : Ty} {wt : α → Nat} (h : Rep d T wt) {e : Nat} {w : World} {base : Nat} {ok : Nat → Prop} {v : Value} {xs : List α} (hR : d.R e w base ok v xs) :
    ∃ A c L,v = .slice A xs.length c ∧ RowV ok w T A xs.length L ∧ L.length = wsum wt xs := by
  obtain ⟨h0,inner,ho,hr⟩ := hR
  have ho2 := ho.2
  rcases ho2 with ⟨rfl,hn⟩ | ⟨g,cap,cur,rfl,hg,hh,hcap,hmax,hsz,htk⟩
  · obtain rfl := List.eq_nil_of_length_eq_zero hn
    exact ⟨none,0,[],rfl,⟨by simp,fun _ => [],rfl,fun h => absurd h (by simp)⟩,rfl⟩
  · have hmx : xs.length ≤ 9223372036854775807 := by have : cap ≤ 9223372036854775807 := hmax;omega
    have key : ∀ i x,xs[i]? = some x → ∃ L,Vis ok w T g (i * T.sz) L ∧ L.length = wt x := fun i x hi => by
      have hM := hr.2 i x hi
      have hil : i < xs.length := (List.getElem?_eq_some_iff.1 hi).1
      have hM2 := d.M_mono (ok' := ok) (fun k hk => hk.1) hM
      obtain ⟨L,v1,e1⟩ := h.vis hM2 g (i * T.sz) cur e hh (fun j u hj => by
        have hjl : j < d.sz := by
          have := (List.getElem?_eq_some_iff.1 hj).1
          rw [List.length_take] at this
          omega
        rw [List.getElem?_take,if_pos hjl,List.getElem?_drop,← htk] at hj
        have hlt : i * d.sz + j < xs.length * d.sz := by
          have : (i + 1) * d.sz ≤ xs.length * d.sz := Nat.mul_le_mul_right _ hil
          rw [Nat.add_mul,Nat.one_mul] at this
          omega
        rw [List.getElem?_take,if_pos hlt,Array.getElem?_toList] at hj
        rw [← h.sz]
        exact hj)
      exact ⟨L,v1,e1⟩
    classical
    have : ∃ Ls : Nat → List Cel,∀ i x,xs[i]? = some x → Vis ok w T g (i * T.sz) (Ls i) ∧ (Ls i).length = wt x := by
      refine ⟨fun i => if h : ∃ x,xs[i]? = some x then (key i h.choose h.choose_spec).choose else [],fun i x hi => ?_⟩
      have hex : ∃ x,xs[i]? = some x := ⟨x,hi⟩
      have ex : hex.choose = x := Option.some.inj (hex.choose_spec.symm.trans hi)
      simp only [dif_pos hex]
      have hs := (key i hex.choose hex.choose_spec).choose_spec
      exact ⟨hs.1,by rw [hs.2,ex]⟩
    obtain ⟨Ls,hLs⟩ := this
    refine ⟨some ⟨g,0,none⟩,cap,cat Ls xs.length,rfl,⟨hmx,Ls,rfl,fun _ => ⟨g,rfl,h0 g rfl,fun i hi => (hLs i xs[i] (List.getElem?_eq_getElem hi)).1⟩⟩,cat_len wt xs Ls (fun i x hi => (hLs i x hi).2)⟩
theorem Rep.slice {α : Type} {d : Kd α} {T : Ty} {wt : α → Nat} (h : Rep d T wt) (e : Nat) : Rep (Kd.slice e d) (.sl T) (wsum wt) :=
  ⟨rfl,fun {w base ok x cs} hM g o cells t hb hc => by
    obtain ⟨v,rfl,hR⟩ := hM
    obtain ⟨A,c,L,rfl,⟨hmx,Ls,e1,hrow⟩,hl⟩ := h.row hR
    exact ⟨L,⟨A,x.length,c,⟨cells,t,hb,by simpa using hc 0 _ rfl⟩,hmx,Ls,e1,hrow⟩,hl⟩⟩
end Go.Proofs.Ytobachfngmpeiaa.Marks
namespace Go.Proofs.Ytobachfngmpeiaa.PFnExactChanSame
open Go.RowKit Go.Proofs.YtobachfngmpeiaaW.PrintWords Go.Proofs.YtobachfngmpeiaaW.PrintLast Go.Proofs.YtobachfngmpeiaaW.PrintMore Go.Proofs.Ytobachfngmpeiaa.Marks
set_option linter.unusedVariables false
set_option linter.unusedSimpArgs false
def laws_FnExactChanSame.f (k : Nat) (l0_0 : List Int) (l0_1 : List (List (S208))) (l1_0 : List (List (S177))) (l1_1 : List (S194)) (l1_2 : List (List (S238))) (l1_3 : List (S190)) (l2_0 : List (S184)) (l2_1 : List (S186)) (l2_2 : List (S190)) (a3 : Int) : Option Bool := (laws_szProg.f k l0_0 l0_1 1048576).bind fun t1 => if t1 < 0 then some true else (laws_szMachine.f k l1_0 l1_1 l1_2 l1_3 t1).bind fun t2 => if t2 < 0 then some true else (laws_szSource.f k l2_0 l2_1 l2_2 t2).bind fun t3 => if t3 < 0 then some true else (laws_toProg.f k l0_0 l0_1).bind fun bA8 => (laws_toMachine.f k l1_0 l1_1 l1_2 l1_3).bind fun bA9 => (laws_toSource.f k l2_0 l2_1 l2_2).bind fun bA10 => (spec_ChanSame.f k bA8.1 bA8.2 bA9.1 bA9.2.1 bA9.2.2.1 bA9.2.2.2 bA10.1 bA10.2.1 bA10.2.2 a3).bind fun t13 => (laws_toProg.f k l0_0 l0_1).bind fun bA12 => (laws_toMachine.f k l1_0 l1_1 l1_2 l1_3).bind fun bA15 => (laws_toSource.f k l2_0 l2_1 l2_2).bind fun bA18 => (impl_ChanSame.f k bA12.1 bA12.2 bA15.1 bA15.2.1 bA15.2.2.1 bA15.2.2.2 bA18.1 bA18.2.1 bA18.2.2 a3).bind fun t23 => if t23 = t13 then (laws_toProg.f k l0_0 l0_1).bind fun bA23 => (laws_eqProg.f k bA12.1 bA12.2 bA23.1 bA23.2).bind fun eA24 => if eA24 = true then (laws_toMachine.f k l1_0 l1_1 l1_2 l1_3).bind fun bA26 => (laws_eqMachine.f k bA15.1 bA15.2.1 bA15.2.2.1 bA15.2.2.2 bA26.1 bA26.2.1 bA26.2.2.1 bA26.2.2.2).bind fun eA27 => if eA27 = true then (laws_toSource.f k l2_0 l2_1 l2_2).bind fun bA29 => (laws_eqSource.f k bA18.1 bA18.2.1 bA18.2.2 bA29.1 bA29.2.1 bA29.2.2).bind fun eA30 => if eA30 = true then some true else some false else some false else some false else some false
end Go.Proofs.Ytobachfngmpeiaa.PFnExactChanSame
namespace Go.Proofs.Ytobachfngmpeiaa.LawKit
open Go.RowKit Go.Proofs.YtobachfngmpeiaaW.PrintWords Go.Proofs.YtobachfngmpeiaaW.PrintLast Go.Proofs.YtobachfngmpeiaaW.PrintMore Go.Proofs.Ytobachfngmpeiaa.Marks
set_option linter.unusedVariables false
set_option linter.unusedSimpArgs false
def St (lo hi : Nat) (Q : World → Prop) (W : World) : Prop := hi ≤ W.heap.size ∧ ∀ W' : World,(∀ g,lo ≤ g → g < hi → W'.heap[g]? = W.heap[g]?) → Q W'
section
variable {lo hi g o : Nat} {Q : World → Prop} {W W' : World} {P : Nat → Prop}
theorem St.now (h : St lo hi Q W) : Q W := h.2 W (fun _ _ _ => rfl)
theorem St.keep (h : St lo hi Q W) (hs : W.heap.size ≤ W'.heap.size) (hk : ∀ g,lo ≤ g → g < hi → W'.heap[g]? = W.heap[g]?) : St lo hi Q W' :=
  ⟨Nat.le_trans h.1 hs,fun W2 h2 => h.2 W2 (fun g h3 h4 => (h2 g h3 h4).trans (hk g h3 h4))⟩
theorem St.below (h : St lo hi Q W) (hb : Below W.heap.size W W') : St lo hi Q W' := h.keep hb.size (fun g _ h4 => hb.block g (Nat.lt_of_lt_of_le h4 h.1))
theorem St.drew (h : St lo hi Q W) : St lo hi Q W.drew := h.keep (Nat.le_refl _) (fun _ _ _ => rfl)
theorem St.drewN (h : St lo hi Q W) (n : Nat) : St lo hi Q (W.drewN n) := h.keep (Nat.le_refl _) (fun _ _ _ => rfl)
theorem St.set (h : St lo hi Q W) (hg : hi ≤ g) (v : Value) : St lo hi Q (W.setCell ⟨g,o,none⟩ v) :=
  h.keep (by simp [World.setCell]) (fun k _ h4 => Below.heap_setCell W ⟨g,o,none⟩ v k (by show k ≠ g;omega))
theorem St.new (top : Nat) (ht : top ≤ W.heap.size) (hs : W.heap.size ≤ W'.heap.size) : ∃ lo hi,top ≤ lo ∧ lo ≤ hi ∧ hi ≤ W'.heap.size ∧ ∀ (α : Type) (d : Kd α) (e : Nat) (v : Value) (xs : List α) (ok : Nat → Prop),Kd.R d e W' W.heap.size ok v xs → St lo hi (fun w => Kd.R d e w lo (fun k => lo ≤ k ∧ k < hi) v xs) W' :=
  ⟨W.heap.size,W'.heap.size,ht,hs,Nat.le_refl _,fun α d e v xs ok h => ⟨Nat.le_refl _,fun W2 h2 => Kd.R_step (Kd.R_mono (Kd.R_bound h) (fun k hk => ⟨hk.2.1,hk.2.2.1⟩)) (fun k hk _ => h2 k hk.1 hk.2)⟩⟩
end
section
variable {α : Type} {d : Kd α} {e lo hi : Nat} {W : World} {A : Option Addr} {n c : Nat} {xs : List α}
theorem St.reads (h : St lo hi (fun w => Kd.R d e w lo (fun k => lo ≤ k ∧ k < hi) (.slice A xs.length c) xs) W) : d.C W A xs.length xs := (Kd.R_reads' h.now).2.2
theorem St.room (h : St lo hi (fun w => Kd.R d e w lo (fun k => lo ≤ k ∧ k < hi) (.slice A xs.length c) xs) W) : xs.length ≤ c := (Kd.R_reads' h.now).2.1
end
end Go.Proofs.Ytobachfngmpeiaa.LawKit
