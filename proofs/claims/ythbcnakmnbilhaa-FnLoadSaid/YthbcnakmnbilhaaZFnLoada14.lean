/- A part of the proof that the law FnLoad holds for every input: the words, functions and walks that its row needs, without a condition of their own. -/
import Derived.Test.YthbcnakmnbilhaaZFnLoada2
import Derived.Test.YthbcnakmnbilhaaZFnLoada3
import Derived.Test.YthbcnakmnbilhaaZFnLoada4
import Derived.Test.YthbcnakmnbilhaaZFnLoada5
import Derived.Test.YthbcnakmnbilhaaZFnLoada13
import Derived.Test.YthbcnakmnbilhaaZFnLoads
namespace Go.Proofs.Ythbcnakmnbilhaa.PFnLoad
open Go.RowKit Go.Proofs.YthbcnakmnbilhaaW.PrintWords Go.Proofs.YthbcnakmnbilhaaW.PrintLast Go.Proofs.YthbcnakmnbilhaaW.PrintMore
attribute [local go_sem] max2_int min2_int max_two min_two max_three min_three max_four min_four   -- for this text's walks alone
set_option linter.unusedVariables false
set_option linter.unusedSimpArgs false
mutual
def laws_FnLoad.j0 : Nat → List Int → Int → Int → Int → List Int → Bool → List (List (S43)) → Option (Bool)
  | 0,_,_,_,_,_,_,_ => none
  | k + 1,x4,x5,x6,x8,x9,x67,x485000 => if x67 = true then (some false) else ((spec_MemoryOk.f k x485000).bind fun t498 => (if t498 = true then ((spec_ViewOk.f k x485000 x4).bind fun t499 => (if t499 = true then (if x5 < 0 then (laws_FnLoad.j1 k x4 x5 x6 x8 x9 true x485000) else (laws_FnLoad.j1 k x4 x5 x6 x8 x9 (decide (x5 ≥ 24)) x485000)) else (laws_FnLoad.j1 k x4 x5 x6 x8 x9 true x485000))) else (laws_FnLoad.j1 k x4 x5 x6 x8 x9 true x485000)))
def laws_FnLoad.j1 : Nat → List Int → Int → Int → Int → List Int → Bool → List (List (S43)) → Option (Bool)
  | 0,_,_,_,_,_,_,_ => none
  | k + 1,x4,x5,x6,x8,x9,x84,x485000 => if x84 = true then (if x8 = 0 then ((laws_sameInts.f k x9 x4).bind fun t500 => (some t500)) else (some false)) else (if 0 ≤ x5 then (if x5 < (x485000.length : Int) then (if 0 ≤ (wrap64 (((rd_L4 x485000 x5).length : Int) - 1)) then (if (wrap64 (((rd_L4 x485000 x5).length : Int) - 1)) < ((rd_L4 x485000 x5).length : Int) then (if x5 < (x4.length : Int) then (laws_FnLoad.l0 k x4 x5 x6 x8 x9 ((rd_T43 (rd_L4 x485000 x5) (wrap64 (((rd_L4 x485000 x5).length : Int) - 1))).f0) false (rd x4 x5) x485000) else (none)) else (none)) else (none)) else (none)) else (none))
def laws_FnLoad.l0 : Nat → List Int → Int → Int → Int → List Int → Int → Bool → Int → List (List (S43)) → Option (Bool)
  | 0,_,_,_,_,_,_,_,_,_ => none
  | k + 1,x4,x5,x6,x8,x9,x12,x13,x14,x485000 => if 0 ≤ x5 then (if x5 < (x485000.length : Int) then (if x14 < ((rd_L4 x485000 x5).length : Int) then (if x13 = true then (laws_FnLoad.l0 k x4 x5 x6 x8 x9 x12 true (wrap64 (x14 + 1)) x485000) else (if 0 ≤ x14 then (laws_FnLoad.l0 k x4 x5 x6 x8 x9 x12 (((rd_T43 (rd_L4 x485000 x5) x14).f0) == x8) (wrap64 (x14 + 1)) x485000) else (none))) else (if x13 = true then ((impl_Knows.f k x9 x4).bind fun t508 => (if t508 = true then ((impl_ViewOk.f k x485000 x9).bind fun t509 => (if t509 = true then (if x6 > 0 then (some true) else (some (x8 == x12))) else (some false))) else (some false))) else (some false))) else (none)) else (none)
end
def laws_FnLoad.f (k : Nat) (l0 : List Int) : Option (Bool) := (laws_big.f l0).bind fun t474 => (if t474 = true then (some true) else ((spec_DrawLoad.f k l0).bind fun bt475 => ((impl_Load.f k bt475.1 bt475.2.1 bt475.2.2.1 bt475.2.2.2.1 bt475.2.2.2.2).bind fun bt485 => ((spec_Load.f k bt475.1 bt475.2.1 bt475.2.2.1 bt475.2.2.2.1 bt475.2.2.2.2).bind fun bt489 => (if bt485.1 = bt489.1 then ((laws_sameInts.f k bt485.2 bt489.2).bind fun t493 => (if t493 = true then ((impl_MemoryOk.f k bt475.1).bind fun t494 => ((spec_MemoryOk.f k bt475.1).bind fun t495 => (if (t494 != t495) = true then (laws_FnLoad.j0 k bt475.2.1 bt475.2.2.1 bt475.2.2.2.1 bt485.1 bt485.2 true bt475.1) else ((impl_ViewOk.f k bt475.1 bt475.2.1).bind fun t496 => ((spec_ViewOk.f k bt475.1 bt475.2.1).bind fun t497 => (laws_FnLoad.j0 k bt475.2.1 bt475.2.2.1 bt475.2.2.2.1 bt485.1 bt485.2 (t496 != t497) bt475.1)))))) else (laws_FnLoad.j0 k bt475.2.1 bt475.2.2.1 bt475.2.2.2.1 bt485.1 bt485.2 true bt475.1))) else (laws_FnLoad.j0 k bt475.2.1 bt475.2.2.1 bt475.2.2.2.1 bt485.1 bt485.2 true bt475.1))))))
def laws_FnLoad.T6 : Bool × List (List Nat × List Nat) := (true,[([],[]),([],[]),([0,1],[0,1]),([2],[2]),([3],[3]),([3],[3]),([4,5,3,3],[3,4,5]),([6,3],[3,6]),([3,7],[3,7]),([8,6],[8]),([9],[9]),([10,9,9],[9,10]),([9],[9]),([12,11,9],[9,12]),([11,13,9],[9,11,13]),([9,14],[9,14]),([15,13],[15]),([16],[16]),([16],[16]),([17,18,16,16],[16,17,18]),([16],[16]),([16],[16]),([20,21,19,16],[16,20,21]),([19,22,16],[16,19,22]),([16,23],[16,23])])
def laws_FnLoad.B6 : List Nat := [0,0,3,7,15,15,63,127,255,511,1023,2047,1023,8191,16383,32767,65535,131071,131071,524287,131071,131071,4194303,8388607,16777215]
theorem laws_FnLoad.tab6 : rtab .any (opsOf Try.f5 6) = laws_FnLoad.T6 := by kernel_rfl
theorem laws_FnLoad.bits6 : waitsOk laws_FnLoad.T6.2 laws_FnLoad.B6 = true := by kernel_rfl
def laws_FnLoad.T10 : Bool × List (List Nat × List Nat) := (true,[([],[]),([0],[0]),([],[]),([1,2],[1,2]),([3],[3]),([],[]),([5],[5]),([],[]),([6,7],[6,7]),([8],[8]),([9],[9]),([10],[10]),([4,11],[4,11]),([12],[12]),([13],[13]),([14,0,1,2,3,4,5,6,7,8,9,10,11,12,13,14],[14])])
def laws_FnLoad.B10 : List Nat := [0,1,0,7,15,0,32,0,224,480,992,2016,4095,8191,16383,32767]
theorem laws_FnLoad.tab10 : rtab .any (opsOf Try.f5 10) = laws_FnLoad.T10 := by kernel_rfl
theorem laws_FnLoad.bits10 : waitsOk laws_FnLoad.T10.2 laws_FnLoad.B10 = true := by kernel_rfl
set_option maxHeartbeats 8000000 in
set_option maxRecDepth 100000 in
theorem laws_FnLoad.calls (k : Nat) (A0 : Option Addr) (c0 : Nat) (l0 : List Int) (r : Bool) (w : World) (hr0 : Kd.C (Kd.int .u8) w A0 l0.length l0) (hc0 : l0.length ≤ c0) (h : laws_FnLoad.f k l0 = some r) :
  Calls Try.prog 5 #[.slice A0 l0.length c0] w fun e w' => e = .returned (.bool r) ∧ Below w.heap.size w w' := by
 have hu24 := Try.underlying24
 have HR0 := aM_ hr0
 have HC0 := aM_ hc0
 clear hr0 hc0
 have HB := aM_ (Below.refl w.heap.size w)
 have H : ((laws_big.f l0).bind fun t474 => (if t474 = true then (some true) else ((spec_DrawLoad.f k l0).bind fun bt475 => ((impl_Load.f k bt475.1 bt475.2.1 bt475.2.2.1 bt475.2.2.2.1 bt475.2.2.2.2).bind fun bt485 => ((spec_Load.f k bt475.1 bt475.2.1 bt475.2.2.1 bt475.2.2.2.1 bt475.2.2.2.2).bind fun bt489 => (if bt485.1 = bt489.1 then ((laws_sameInts.f k bt485.2 bt489.2).bind fun t493 => (if t493 = true then ((impl_MemoryOk.f k bt475.1).bind fun t494 => ((spec_MemoryOk.f k bt475.1).bind fun t495 => (if (t494 != t495) = true then (laws_FnLoad.j0 k bt475.2.1 bt475.2.2.1 bt475.2.2.2.1 bt485.1 bt485.2 true bt475.1) else ((impl_ViewOk.f k bt475.1 bt475.2.1).bind fun t496 => ((spec_ViewOk.f k bt475.1 bt475.2.1).bind fun t497 => (laws_FnLoad.j0 k bt475.2.1 bt475.2.2.1 bt475.2.2.2.1 bt485.1 bt485.2 (t496 != t497) bt475.1)))))) else (laws_FnLoad.j0 k bt475.2.1 bt475.2.2.1 bt475.2.2.2.1 bt485.1 bt485.2 true bt475.1))) else (laws_FnLoad.j0 k bt475.2.1 bt475.2.2.1 bt475.2.2.2.1 bt485.1 bt485.2 true bt475.1))))))) = some r := h
 clear h
 replace H := Option.bind_eq_some_iff.mp H
 obtain ⟨t474,A20,H⟩ := H
 replace H : (if t474 = true then (some true) else ((spec_DrawLoad.f k l0).bind fun bt475 => ((impl_Load.f k bt475.1 bt475.2.1 bt475.2.2.1 bt475.2.2.2.1 bt475.2.2.2.2).bind fun bt485 => ((spec_Load.f k bt475.1 bt475.2.1 bt475.2.2.1 bt475.2.2.2.1 bt475.2.2.2.2).bind fun bt489 => (if bt485.1 = bt489.1 then ((laws_sameInts.f k bt485.2 bt489.2).bind fun t493 => (if t493 = true then ((impl_MemoryOk.f k bt475.1).bind fun t494 => ((spec_MemoryOk.f k bt475.1).bind fun t495 => (if (t494 != t495) = true then (laws_FnLoad.j0 k bt475.2.1 bt475.2.2.1 bt475.2.2.2.1 bt485.1 bt485.2 true bt475.1) else ((impl_ViewOk.f k bt475.1 bt475.2.1).bind fun t496 => ((spec_ViewOk.f k bt475.1 bt475.2.1).bind fun t497 => (laws_FnLoad.j0 k bt475.2.1 bt475.2.2.1 bt475.2.2.2.1 bt485.1 bt485.2 (t496 != t497) bt475.1)))))) else (laws_FnLoad.j0 k bt475.2.1 bt475.2.2.1 bt475.2.2.2.1 bt485.1 bt485.2 true bt475.1))) else (laws_FnLoad.j0 k bt475.2.1 bt475.2.2.1 bt475.2.2.2.1 bt485.1 bt485.2 true bt475.1)))))) = some r := H
 have A2 := aM_ A20
 clear A20
 by_cases c3 : t474 = true
 ·subst c3
  have H1 : (some true) = some r := by rw [if_pos rfl] at H;exact H
  clear H
  have H := H1
  clear H1
  obtain rfl := Option.some.inj H
  go_enter Try.func5,Try.ntmps5
  go_wp2_with (first | ((with_reducible refine gate_callee (f := 18) rfl ?_);refine gL_ (some 16) Try.func18 #[.slice A0 l0.length c0] ?_;(with_reducible refine (laws_big.calls _ _ l0 true _ ?side1 ?side2 A2.out).mono ?_);(case side1 => exact cS_ HR0.out);(case side2 => exact HC0.out);rintro e w' ⟨rfl,⟨nd,rfl⟩⟩;refine ⟨_,rfl,?_⟩))
  go_ret
  exact fI_ HB.out
 ·replace c3 := Bool.eq_false_iff.mpr c3
  subst c3
  have H1 : ((spec_DrawLoad.f k l0).bind fun bt475 => ((impl_Load.f k bt475.1 bt475.2.1 bt475.2.2.1 bt475.2.2.2.1 bt475.2.2.2.2).bind fun bt485 => ((spec_Load.f k bt475.1 bt475.2.1 bt475.2.2.1 bt475.2.2.2.1 bt475.2.2.2.2).bind fun bt489 => (if bt485.1 = bt489.1 then ((laws_sameInts.f k bt485.2 bt489.2).bind fun t493 => (if t493 = true then ((impl_MemoryOk.f k bt475.1).bind fun t494 => ((spec_MemoryOk.f k bt475.1).bind fun t495 => (if (t494 != t495) = true then (laws_FnLoad.j0 k bt475.2.1 bt475.2.2.1 bt475.2.2.2.1 bt485.1 bt485.2 true bt475.1) else ((impl_ViewOk.f k bt475.1 bt475.2.1).bind fun t496 => ((spec_ViewOk.f k bt475.1 bt475.2.1).bind fun t497 => (laws_FnLoad.j0 k bt475.2.1 bt475.2.2.1 bt475.2.2.2.1 bt485.1 bt485.2 (t496 != t497) bt475.1)))))) else (laws_FnLoad.j0 k bt475.2.1 bt475.2.2.1 bt475.2.2.2.1 bt485.1 bt485.2 true bt475.1))) else (laws_FnLoad.j0 k bt475.2.1 bt475.2.2.1 bt475.2.2.2.1 bt485.1 bt485.2 true bt475.1))))) = some r := by rw [if_neg (show ¬ (false = true) by decide)] at H;exact H
  clear H
  have H := H1
  clear H1
  replace H := Option.bind_eq_some_iff.mp H
  obtain ⟨⟨t475,t478,t481,t482,t483⟩,A40,H⟩ := H
  replace H : ((impl_Load.f k t475 t478 t481 t482 t483).bind fun bt485 => ((spec_Load.f k t475 t478 t481 t482 t483).bind fun bt489 => (if bt485.1 = bt489.1 then ((laws_sameInts.f k bt485.2 bt489.2).bind fun t493 => (if t493 = true then ((impl_MemoryOk.f k t475).bind fun t494 => ((spec_MemoryOk.f k t475).bind fun t495 => (if (t494 != t495) = true then (laws_FnLoad.j0 k t478 t481 t482 bt485.1 bt485.2 true t475) else ((impl_ViewOk.f k t475 t478).bind fun t496 => ((spec_ViewOk.f k t475 t478).bind fun t497 => (laws_FnLoad.j0 k t478 t481 t482 bt485.1 bt485.2 (t496 != t497) t475)))))) else (laws_FnLoad.j0 k t478 t481 t482 bt485.1 bt485.2 true t475))) else (laws_FnLoad.j0 k t478 t481 t482 bt485.1 bt485.2 true t475)))) = some r := H
  have A4 := aM_ A40
  clear A40
  replace H := Option.bind_eq_some_iff.mp H
  obtain ⟨⟨t485,t486⟩,A50,H⟩ := H
  replace H : ((spec_Load.f k t475 t478 t481 t482 t483).bind fun bt489 => (if t485 = bt489.1 then ((laws_sameInts.f k t486 bt489.2).bind fun t493 => (if t493 = true then ((impl_MemoryOk.f k t475).bind fun t494 => ((spec_MemoryOk.f k t475).bind fun t495 => (if (t494 != t495) = true then (laws_FnLoad.j0 k t478 t481 t482 t485 t486 true t475) else ((impl_ViewOk.f k t475 t478).bind fun t496 => ((spec_ViewOk.f k t475 t478).bind fun t497 => (laws_FnLoad.j0 k t478 t481 t482 t485 t486 (t496 != t497) t475)))))) else (laws_FnLoad.j0 k t478 t481 t482 t485 t486 true t475))) else (laws_FnLoad.j0 k t478 t481 t482 t485 t486 true t475))) = some r := H
  have A5 := aM_ A50
  clear A50
  replace H := Option.bind_eq_some_iff.mp H
  obtain ⟨⟨t489,t490⟩,A60,H⟩ := H
  replace H : (if t485 = t489 then ((laws_sameInts.f k t486 t490).bind fun t493 => (if t493 = true then ((impl_MemoryOk.f k t475).bind fun t494 => ((spec_MemoryOk.f k t475).bind fun t495 => (if (t494 != t495) = true then (laws_FnLoad.j0 k t478 t481 t482 t485 t486 true t475) else ((impl_ViewOk.f k t475 t478).bind fun t496 => ((spec_ViewOk.f k t475 t478).bind fun t497 => (laws_FnLoad.j0 k t478 t481 t482 t485 t486 (t496 != t497) t475)))))) else (laws_FnLoad.j0 k t478 t481 t482 t485 t486 true t475))) else (laws_FnLoad.j0 k t478 t481 t482 t485 t486 true t475)) = some r := H
  have A6 := aM_ A60
  clear A60
  have HC7 := aM_ H
  clear H
  go_enter Try.func5,Try.ntmps5
  go_upto_region 6 with (first | ((with_reducible refine gate_callee (f := 18) rfl ?_);refine gL_ (some 16) Try.func18 #[.slice A0 l0.length c0] ?_;(with_reducible refine (laws_big.calls _ _ l0 false _ ?side1 ?side2 A2.out).mono ?_);(case side1 => exact cS_ HR0.out);(case side2 => exact HC0.out);rintro e w' ⟨rfl,⟨nd,rfl⟩⟩;refine ⟨_,rfl,?_⟩) | ((with_reducible refine gate_callee (f := 24) rfl ?_);refine gL_ (some 19) Try.func24 #[.slice A0 l0.length c0] ?_;(with_reducible refine (spec_DrawLoad.calls k _ _ l0 t475 t478 t481 t482 t483 _ ?side1 ?side2 A4.out).mono ?_);(case side1 => exact cS_ HR0.out);(case side2 => exact HC0.out);rintro e w8 ⟨v476,v479,rfl,ho0,ho1,hb⟩;refine ⟨_,rfl,?_⟩;have n0 := aM_ (Kd.V_lower (Kd.V_mono (ok' := fun k_ => some k_ ≠ (v479 : Value).ownBlock) ho0 (fun k_ hk_ => hk_.2)) (below_size (gB_ HB.out)));have n1 := aM_ (Kd.Q_lower (Kd.Q_mono (ok' := fun k_ => True) ho1 (fun _ hk_ => trivial)) (below_size (gB_ HB.out)));have n2 := aM_ (sT_ HB.out hb);clear HB;have HO477 := n0;have HO480 := n1;have HB := n2;clear n0 n1 n2;(try clear ho0);(try clear ho1)) | ((with_reducible refine gate_dst (N := 3) rfl ?_);refine bX_ 3 (cs := #[.slice none 0 0]) (t := 24) ?_;intro gb484 hg w9 hbox hb;have n0 := aM_ (Kd.V_below (Kd.V_elderB (by (with_reducible repeat (first | apply Kd.V_alloc | apply Kd.V_drewN | apply Kd.V_drew));exact HO477.out) gb484 (Nat.le_of_eq hg.symm)) hb);have n1 := aM_ (bQ_ HO480.out hb);have n2 := aM_ (sT_ HB.out hb);have n3 := aM_ (hbox);have n4 := aM_ (sZ_ hg HB.out);have n5 := aM_ (sZ_ hg HB.out);clear HO477;clear HO480;clear HB;have HO477 := n0;have HO480 := n1;have HB := n2;have BK484 := n3;have GW484 := n4;have GE484 := n5;clear n0 n1 n2 n3 n4 n5;clear hb hbox hg;obtain ⟨Ao10,co10,eo10⟩ := Kd.V_slice HO477.out;subst eo10;have hcz11_0 : w9.cell? ⟨gb484,0,none⟩ = some (.slice none 0 0) := (blk_cell BK484.out 0).trans rfl;have hfz11_0 := blk_frozen BK484.out 0;obtain ⟨Ao12,co12,eo12,_⟩ := Kd.Q_slice HO480.out;subst eo12) | ((with_reducible refine gate_callee (f := 21) rfl ?_);refine gL_ (some 31) Try.func21 #[.agg #[.slice Ao10 t475.length co10],.slice Ao12 t478.length co12,.int .i64 t481,.int .i64 t482,.bool t483] ?_;(with_reducible refine (impl_Load.calls k _ _ t475 _ _ t478 t481 t482 t483 t485 t486 _ ?side1 ?side2 ?side3 ?side4 A5.out).mono ?_);(case side1 => refine (Kd.V_reads' (e := 44) (base := w.heap.size) (ok := fun k_ => (some k_ ≠ (.slice Ao12 t478.length co12 : Value).ownBlock ∧ k_ ≠ gb484)) (n := t475.length) (c := co10) ?_).2.2;exact (by (with_reducible repeat (first | apply Kd.V_alloc | apply Kd.V_drewN | apply Kd.V_drew));exact (Kd.V_mono (Kd.V_far (p := ⟨gb484,0,none⟩) (Kd.V_mono HO477.out (fun k_ hk => (⟨hk,hk.2⟩ : _ ∧ k_ ≠ gb484))) (fun _ hk => hk.2) (.slice Ao10 t475.length co10)) (fun _ h_ => h_.1))));(case side2 => exact (Kd.V_reads' HO477.out).2.1);(case side3 => refine (Kd.Q_reads' (e := 3) (base := w.heap.size) (ok := fun k_ => True) (n := t478.length) (c := co12) ?_).2.2;exact (by (with_reducible repeat (first | apply qA_ | apply qN_ | apply qD_));exact (Kd.Q_mono (Kd.Q_far (p := ⟨gb484,0,none⟩) (Kd.Q_types HO480.out BK484.out (by decide)) (fun _ hk => hk.2) (.slice Ao10 t475.length co10)) (fun _ h_ => h_.1))));(case side4 => exact (Kd.Q_reads' HO480.out).2.1);rintro e w13 ⟨v487,rfl,ho0,hb⟩;refine ⟨_,rfl,?_⟩;have n0 := aM_ (Kd.V_elder' (by (with_reducible repeat (first | apply Kd.V_alloc | apply Kd.V_drewN | apply Kd.V_drew));exact (Kd.V_mono (Kd.V_far (p := ⟨gb484,0,none⟩) (Kd.V_mono HO477.out (fun k_ hk => (⟨hk,hk.2⟩ : _ ∧ k_ ≠ gb484))) (fun _ hk => hk.2) (.slice Ao10 t475.length co10)) (fun _ h_ => h_.1))) (Kd.R_base ho0) hb);have n1 := aM_ (Kd.Q_elder' (by (with_reducible repeat (first | apply qA_ | apply qN_ | apply qD_));exact (Kd.Q_mono (Kd.Q_far (p := ⟨gb484,0,none⟩) (Kd.Q_types HO480.out BK484.out (by decide)) (fun _ hk => hk.2) (.slice Ao10 t475.length co10)) (fun _ h_ => h_.1))) (Kd.R_base ho0) hb);have n2 := aM_ (Kd.R_lower (Kd.R_new' ho0 (Kd.Q_lt (by (with_reducible repeat (first | apply qA_ | apply qN_ | apply qD_));exact (Kd.Q_mono (Kd.Q_far (p := ⟨gb484,0,none⟩) (Kd.Q_types HO480.out BK484.out (by decide)) (fun _ hk => hk.2) (.slice Ao10 t475.length co10)) (fun _ h_ => h_.1))))) (below_size (gB_ HB.out)));have n3 := aM_ (blk_below (g := gb484) (o := .cells #[.slice Ao10 t475.length co10] 24 (0,0)) (by (with_reducible repeat (first | refine bN_ ?_ _ | refine bD_ ?_ | refine bA_ ?_ _));refine blk_put (cs := #[.slice none 0 0]) ?_ 0 _ rfl;exact rW_ BK484.out) hb);have n4 := aM_ (sT_ HB.out hb);clear HO477;clear HO480;clear BK484;clear HB;have HO477 := n0;have HO480 := n1;have HO488 := n2;have BK484 := n3;have HB := n4;clear n0 n1 n2 n3 n4;(try clear ho0);have hcz14_0 : w13.cell? ⟨gb484,0,none⟩ = some (.slice Ao10 t475.length co10) := (blk_cell BK484.out 0).trans rfl;have hfz14_0 := blk_frozen BK484.out 0) | ((with_reducible refine gate_callee (f := 22) rfl ?_);refine gL_ (some 40) Try.func22 #[.agg #[.slice Ao10 t475.length co10],.slice Ao12 t478.length co12,.int .i64 t481,.int .i64 t482,.bool t483] ?_;(with_reducible refine (spec_Load.calls k _ _ t475 _ _ t478 t481 t482 t483 t489 t490 _ ?side1 ?side2 ?side3 ?side4 A6.out).mono ?_);(case side1 => exact cS_ (Kd.V_reads' HO477.out).2.2);(case side2 => exact (Kd.V_reads' HO477.out).2.1);(case side3 => exact cS_ (Kd.Q_reads' HO480.out).2.2);(case side4 => exact (Kd.Q_reads' HO480.out).2.1);rintro e w15 ⟨v491,rfl,ho0,hb⟩;refine ⟨_,rfl,?_⟩;have n0 := aM_ (Kd.V_elder' (by (with_reducible repeat (first | apply Kd.V_alloc | apply Kd.V_drewN | apply Kd.V_drew));exact HO477.out) (Kd.R_base ho0) hb);have n1 := aM_ (Kd.Q_elder' (by (with_reducible repeat (first | apply qA_ | apply qN_ | apply qD_));exact HO480.out) (Kd.R_base ho0) hb);have n2 := aM_ (Kd.R_elder' (by (with_reducible repeat (first | apply rA_ | apply rN_ | apply rD_));exact HO488.out) (Kd.R_base ho0) hb);have n3 := aM_ (Kd.R_lower (Kd.R_new' (Kd.R_new' ho0 (Kd.Q_lt (by (with_reducible repeat (first | apply qA_ | apply qN_ | apply qD_));exact HO480.out))) (Kd.R_lt (by (with_reducible repeat (first | apply rA_ | apply rN_ | apply rD_));exact HO488.out))) (below_size (gB_ HB.out)));have n4 := aM_ (nB_ BK484.out hb);have n5 := aM_ (sT_ HB.out hb);clear HO477;clear HO480;clear HO488;clear BK484;clear HB;have HO477 := n0;have HO480 := n1;have HO488 := n2;have HO492 := n3;have BK484 := n4;have HB := n5;clear n0 n1 n2 n3 n4 n5;(try clear ho0)))
  (try simp only [Act.put,List.setIfInBounds_toArray,List.set_cons_zero,List.set_cons_succ])
  go_cut [67] (fun v67 wc => ∃ (kq : Nat) (x67_6 : Bool),v67 = .bool x67_6 ∧ Aside0 (laws_FnLoad.j0 kq t478 t481 t482 t485 t486 x67_6 t475 = some r) ∧ Aside0 (kq ≤ k) ∧ Aside0 (Kd.Q (Kd.int .i64) 3 wc w.heap.size (fun k_ => some k_ ≠ (v487 : Value).ownBlock) (.slice Ao12 t478.length co12) t478) ∧ Aside0 (Kd.R (Kd.int .i64) 3 wc w.heap.size (fun k_ => some k_ ≠ ((.slice Ao12 t478.length co12) : Value).ownBlock) v487 t486) ∧ Aside0 (Kd.V (Kd.slice 43 k43) 44 wc w.heap.size (fun k_ => some k_ ≠ ((.slice Ao12 t478.length co12) : Value).ownBlock ∧ some k_ ≠ (v487 : Value).ownBlock ∧ k_ ≠ gb484) (.slice Ao10 t475.length co10) t475) ∧ Aside0 (wc.heap[gb484]? = some (.cells #[(.slice Ao10 t475.length co10)] 24 (0,0))) ∧ Aside0 (Below w.heap.size w wc))
  case first =>
   have H := HC7.out
   clear HC7
   by_cases c16 : t485 = t489
   ·rw [if_pos c16] at H
    have c16b0 : (t485 == t489) = true := beq_iff_eq.mpr c16
    have c16b1 : (t485 != t489) = false := bne_eq_false_iff_eq.mpr c16
    clear c16
    (first | rw [c16b0] | (simp only [i64_w,i32_w];rw [c16b0]) | skip)
    replace H := Option.bind_eq_some_iff.mp H
    obtain ⟨t493,A170,H⟩ := H
    replace H : (if t493 = true then ((impl_MemoryOk.f k t475).bind fun t494 => ((spec_MemoryOk.f k t475).bind fun t495 => (if (t494 != t495) = true then (laws_FnLoad.j0 k t478 t481 t482 t485 t486 true t475) else ((impl_ViewOk.f k t475 t478).bind fun t496 => ((spec_ViewOk.f k t475 t478).bind fun t497 => (laws_FnLoad.j0 k t478 t481 t482 t485 t486 (t496 != t497) t475)))))) else (laws_FnLoad.j0 k t478 t481 t482 t485 t486 true t475)) = some r := H
    have A17 := aM_ A170
    clear A170
    by_cases c18 : t493 = true
    ·subst c18
     have H1 : ((impl_MemoryOk.f k t475).bind fun t494 => ((spec_MemoryOk.f k t475).bind fun t495 => (if (t494 != t495) = true then (laws_FnLoad.j0 k t478 t481 t482 t485 t486 true t475) else ((impl_ViewOk.f k t475 t478).bind fun t496 => ((spec_ViewOk.f k t475 t478).bind fun t497 => (laws_FnLoad.j0 k t478 t481 t482 t485 t486 (t496 != t497) t475)))))) = some r := by rw [if_pos rfl] at H;exact H
     clear H
     have H := H1
     clear H1
     replace H := Option.bind_eq_some_iff.mp H
     obtain ⟨t494,A190,H⟩ := H
     replace H : ((spec_MemoryOk.f k t475).bind fun t495 => (if (t494 != t495) = true then (laws_FnLoad.j0 k t478 t481 t482 t485 t486 true t475) else ((impl_ViewOk.f k t475 t478).bind fun t496 => ((spec_ViewOk.f k t475 t478).bind fun t497 => (laws_FnLoad.j0 k t478 t481 t482 t485 t486 (t496 != t497) t475))))) = some r := H
     have A19 := aM_ A190
     clear A190
     replace H := Option.bind_eq_some_iff.mp H
     obtain ⟨t495,A200,H⟩ := H
     replace H : (if (t494 != t495) = true then (laws_FnLoad.j0 k t478 t481 t482 t485 t486 true t475) else ((impl_ViewOk.f k t475 t478).bind fun t496 => ((spec_ViewOk.f k t475 t478).bind fun t497 => (laws_FnLoad.j0 k t478 t481 t482 t485 t486 (t496 != t497) t475)))) = some r := H
     have A20 := aM_ A200
     clear A200
     by_cases c21 : (t494 != t495) = true
     ·rw [if_pos c21] at H
      have c21b0 : (t494 != t495) = true := c21
      (try (have c21b1 : decide (t494 = t495) = false := by simpa using c21))
      (try (have c21b2 : (t494 == t495) = false := by simpa using c21))
      (try (have c21b3 : ¬ (t494 = t495) := by simpa using c21))
      clear c21
      have H' := aM_ H
      clear H
      try go_wp2
      have n0 := aM_ (Kd.V_drew HO477.out)
      have n1 := aM_ (Kd.Q_drew HO480.out)
      have n2 := aM_ (Kd.R_drew HO488.out)
      have n3 := aM_ (Kd.R_drew HO492.out)
      have n4 := aM_ (blk_drew BK484.out)
      have n5 := aM_ (below_drew1 HB.out)
      clear HO477
      clear HO480
      clear HO488
      clear HO492
      clear BK484
      clear HB
      have HO477 := n0
      have HO480 := n1
      have HO488 := n2
      have HO492 := n3
      have BK484 := n4
      have HB := n5
      clear n0 n1 n2 n3 n4 n5
      obtain ⟨Ao23,co23,eo23⟩ := Kd.R_slice HO488.out
      (first | subst eo23 | (injection eo23 with f1_ f2_ f3_;have f4_ := f1_.symm;have f5_ := f3_.symm;clear f1_ f2_ f3_;subst f4_;subst f5_))
      obtain ⟨Ao24,co24,eo24⟩ := Kd.R_slice HO492.out
      (first | subst eo24 | (injection eo24 with f1_ f2_ f3_;have f4_ := f1_.symm;have f5_ := f3_.symm;clear f1_ f2_ f3_;subst f4_;subst f5_))
      refine start_ (n := 25) (S := fun w' => w'.cell? ⟨gb484,0,none⟩ = some (.slice Ao10 t475.length co10)) (ds := []) (mk_ 25 0) (by kernel_rfl) rfl rfl ((blk_cell BK484.out 0).trans rfl) (fun hHeld => ?_);refine with_tabW laws_FnLoad.tab6 laws_FnLoad.bits6 (fun HT_ HW_ => ?_)
      generalize w15.drew = w22 at HO477 HO480 HO488 HO492 BK484 HB hHeld ⊢
      refine pU_ 0 (some 43) (mk_ 25 1) ?_
      refine pU_ 1 (some 44) (mk_ 25 3) ?_
      refine pU_ 2 (some 45) (mk_ 25 7) ?_
      refine pU_ 3 (some 46) (mk_ 25 15) ?_
      refine pU_ 4 (some 47) (mk_ 25 31) ?_
      refine pU_ 5 (some 48) (mk_ 25 63) ?_
      refine oN_ 6 (some 49) (mk_ 25 127) (fun K hK => ?_)
      refine gO_ Try.func25 #[.slice Ao23 t486.length co23,.slice Ao24 t490.length co24] ?_
      with_reducible refine (laws_sameInts.calls k _ _ t486 _ _ t490 true _ ?side1 ?side2 ?side3 ?side4 A17.out).mono ?_
      (case side1 => exact cS_ (Kd.R_reads' HO488.out).2.2)
      (case side2 => exact (Kd.R_reads' HO488.out).2.1)
      (case side3 => exact cS_ (Kd.R_reads' HO492.out).2.2)
      (case side4 => exact (Kd.R_reads' HO492.out).2.1)
      rintro e w' ⟨rfl,⟨nd,rfl⟩⟩
      refine ⟨_,rfl,?_⟩
      refine hK.out _ _ ((blk_cell BK484.out 0).trans rfl) (fun hHeld => ?_)
      clear hK K
      refine norm_ (a' := ?_) ?_ ?_
      rotate_left
      ·show Act.put _ (some 49) _ = _
       simp only [pt_,pn_,sI_,s0_,s1_,i64_w,i32_w]
       rfl
      refine pU_ 7 (some 50) (mk_ 25 255) ?_
      refine pU_ 8 (some 51) (mk_ 25 511) ?_
      refine pU_ 9 (some 52) (mk_ 25 1023) ?_
      refine take_ (i := 10) (N := some 53) (v := ?_) (a' := ?_) #[true,true,true,true,true,true,true,true,true,true,true,false,false,false,false,false,false,false,false,false,false,false,false,false,false] rfl rfl (take_ofW HT_.out HW_.out (by kernel_rfl)) (fun _ _ _ h => h) (Or.inl ⟨by rfl,?_⟩) hHeld ?_ ?_
      rotate_left
      ·intro w' s0
       go_simp
       with_reducible rfl
      rotate_left
      ·simp only [pt_,pn_,sI_,s0_,s1_,i64_w,i32_w]
       rfl
      refine take_ (i := 12) (N := some 55) (v := ?_) (a' := ?_) #[true,true,true,true,true,true,true,true,true,true,true,false,true,false,false,false,false,false,false,false,false,false,false,false,false] rfl rfl (take_ofW HT_.out HW_.out (by kernel_rfl)) (fun _ _ _ h => h) (Or.inl ⟨by rfl,?_⟩) hHeld ?_ ?_
      rotate_left
      ·intro w' s0
       go_simp
       with_reducible rfl
      rotate_left
      ·simp only [pt_,pn_,sI_,s0_,s1_,i64_w,i32_w]
       rfl
      refine oN_ 11 (some 54) (mk_ 25 8191) (fun K hK => ?_)
      refine gO_ Try.func26 #[.agg #[.slice Ao10 t475.length co10]] ?_
      with_reducible refine (impl_MemoryOk.calls k _ _ t475 t494 _ ?side1 ?side2 A19.out).mono ?_
      (case side1 => exact cS_ (Kd.V_reads' HO477.out).2.2)
      (case side2 => exact (Kd.V_reads' HO477.out).2.1)
      rintro e w25 ⟨rfl,hb⟩
      refine ⟨_,rfl,?_⟩
      have n0 := aM_ (Kd.V_below (by (with_reducible repeat (first | apply Kd.V_alloc | apply Kd.V_drewN | apply Kd.V_drew));exact HO477.out) hb)
      have n1 := aM_ (bQ_ HO480.out hb)
      have n2 := aM_ (bR_ HO488.out hb)
      have n3 := aM_ (bR_ HO492.out hb)
      have n4 := aM_ (nB_ BK484.out hb)
      have n5 := aM_ (sT_ HB.out hb)
      clear HO477
      clear HO480
      clear HO488
      clear HO492
      clear BK484
      clear HB
      have HO477 := n0
      have HO480 := n1
      have HO488 := n2
      have HO492 := n3
      have BK484 := n4
      have HB := n5
      clear n0 n1 n2 n3 n4 n5
      (try clear hb)
      (try clear hb2)
      (try clear hk)
      (try clear hi)
      refine hK.out _ _ ((blk_cell BK484.out 0).trans rfl) (fun hHeld => ?_)
      clear hK K
      refine norm_ (a' := ?_) ?_ ?_
      rotate_left
      ·show Act.put _ (some 54) _ = _
       simp only [pt_,pn_,sI_,s0_,s1_,i64_w,i32_w]
       rfl
      refine oN_ 13 (some 56) (mk_ 25 16383) (fun K hK => ?_)
      refine gO_ Try.func27 #[.agg #[.slice Ao10 t475.length co10]] ?_
      with_reducible refine (spec_MemoryOk.calls k _ _ t475 t495 _ ?side1 ?side2 A20.out).mono ?_
      (case side1 => exact cS_ (Kd.V_reads' HO477.out).2.2)
      (case side2 => exact (Kd.V_reads' HO477.out).2.1)
      rintro e w26 ⟨rfl,hb⟩
      refine ⟨_,rfl,?_⟩
      have n0 := aM_ (Kd.V_below (by (with_reducible repeat (first | apply Kd.V_alloc | apply Kd.V_drewN | apply Kd.V_drew));exact HO477.out) hb)
      have n1 := aM_ (bQ_ HO480.out hb)
      have n2 := aM_ (bR_ HO488.out hb)
      have n3 := aM_ (bR_ HO492.out hb)
      have n4 := aM_ (nB_ BK484.out hb)
      have n5 := aM_ (sT_ HB.out hb)
      clear HO477
      clear HO480
      clear HO488
      clear HO492
      clear BK484
      clear HB
      have HO477 := n0
      have HO480 := n1
      have HO488 := n2
      have HO492 := n3
      have BK484 := n4
      have HB := n5
      clear n0 n1 n2 n3 n4 n5
      (try clear hb)
      (try clear hb2)
      (try clear hk)
      (try clear hi)
      refine hK.out _ _ ((blk_cell BK484.out 0).trans rfl) (fun hHeld => ?_)
      clear hK K
      refine norm_ (a' := ?_) ?_ ?_
      rotate_left
      ·show Act.put _ (some 56) _ = _
       simp only [pt_,pn_,sI_,s0_,s1_,i64_w,i32_w]
       rfl
      refine pU_ 14 (some 57) (mk_ 25 32767) ?_
      refine pU_ 15 (some 58) (mk_ 25 65535) ?_
      refine pU_ 16 (some 59) (mk_ 25 131071) ?_
      refine pX_ 17 (some 60) (mk_ 25 262143) ?_
      refine pX_ 18 (some 61) (mk_ 25 524287) ?_
      refine pX_ 19 (some 62) (mk_ 25 1048575) ?_
      refine pX_ 20 (some 63) (mk_ 25 2097151) ?_
      refine pX_ 21 (some 64) (mk_ 25 4194303) ?_
      refine pX_ 22 (some 65) (mk_ 25 8388607) ?_
      refine pX_ 23 (some 66) (mk_ 25 16777215) ?_
      refine pU_ 24 (some 67) (mk_ 25 33554431) ?_
      refine done_ (done_of HT_.out (by kernel_rfl)) ?_
      try go_wp2
      go_meet
      case rel => exact ⟨_,(true),(by first | rfl | (simp;done) | (simp [*];done)),H',⟨by first | omega | exact Nat.le_refl _⟩,⟨by (with_reducible repeat (first | apply qA_ | apply qN_ | apply qD_));exact Kd.Q_mono HO480.out (fun _ hk => hk.1.2)⟩,⟨by (with_reducible repeat (first | apply rA_ | apply rN_ | apply rD_));exact Kd.R_mono HO488.out (fun _ hk => hk.1.2)⟩,⟨by (with_reducible repeat (first | apply Kd.V_alloc | apply Kd.V_drewN | apply Kd.V_drew));exact Kd.V_mono HO477.out (fun _ hk => ⟨hk.1.1.1,⟨hk.1.2,hk.1.1.2⟩⟩)⟩,⟨rW_ BK484.out⟩,⟨gW_ HB.out⟩⟩
     ·rw [if_neg c21] at H
      have c21b0 : (t494 != t495) = false := by simpa using c21
      (try (have c21b1 : decide (t494 = t495) = true := by simpa using c21))
      (try (have c21b2 : (t494 == t495) = true := by simpa using c21))
      clear c21
      replace H := Option.bind_eq_some_iff.mp H
      obtain ⟨t496,A270,H⟩ := H
      replace H : ((spec_ViewOk.f k t475 t478).bind fun t497 => (laws_FnLoad.j0 k t478 t481 t482 t485 t486 (t496 != t497) t475)) = some r := H
      have A27 := aM_ A270
      clear A270
      replace H := Option.bind_eq_some_iff.mp H
      obtain ⟨t497,A280,H⟩ := H
      replace H : (laws_FnLoad.j0 k t478 t481 t482 t485 t486 (t496 != t497) t475) = some r := H
      have A28 := aM_ A280
      clear A280
      have H' := aM_ H
      clear H
      try go_wp2
      have n0 := aM_ (Kd.V_drew HO477.out)
      have n1 := aM_ (Kd.Q_drew HO480.out)
      have n2 := aM_ (Kd.R_drew HO488.out)
      have n3 := aM_ (Kd.R_drew HO492.out)
      have n4 := aM_ (blk_drew BK484.out)
      have n5 := aM_ (below_drew1 HB.out)
      clear HO477
      clear HO480
      clear HO488
      clear HO492
      clear BK484
      clear HB
      have HO477 := n0
      have HO480 := n1
      have HO488 := n2
      have HO492 := n3
      have BK484 := n4
      have HB := n5
      clear n0 n1 n2 n3 n4 n5
      obtain ⟨Ao30,co30,eo30⟩ := Kd.R_slice HO488.out
      (first | subst eo30 | (injection eo30 with f1_ f2_ f3_;have f4_ := f1_.symm;have f5_ := f3_.symm;clear f1_ f2_ f3_;subst f4_;subst f5_))
      obtain ⟨Ao31,co31,eo31⟩ := Kd.R_slice HO492.out
      (first | subst eo31 | (injection eo31 with f1_ f2_ f3_;have f4_ := f1_.symm;have f5_ := f3_.symm;clear f1_ f2_ f3_;subst f4_;subst f5_))
      refine start_ (n := 25) (S := fun w' => w'.cell? ⟨gb484,0,none⟩ = some (.slice Ao10 t475.length co10)) (ds := []) (mk_ 25 0) (by kernel_rfl) rfl rfl ((blk_cell BK484.out 0).trans rfl) (fun hHeld => ?_);refine with_tabW laws_FnLoad.tab6 laws_FnLoad.bits6 (fun HT_ HW_ => ?_)
      generalize w15.drew = w29 at HO477 HO480 HO488 HO492 BK484 HB hHeld ⊢
      refine pU_ 0 (some 43) (mk_ 25 1) ?_
      refine pU_ 1 (some 44) (mk_ 25 3) ?_
      refine pU_ 2 (some 45) (mk_ 25 7) ?_
      refine pU_ 3 (some 46) (mk_ 25 15) ?_
      refine pU_ 4 (some 47) (mk_ 25 31) ?_
      refine pU_ 5 (some 48) (mk_ 25 63) ?_
      refine oN_ 6 (some 49) (mk_ 25 127) (fun K hK => ?_)
      refine gO_ Try.func25 #[.slice Ao30 t486.length co30,.slice Ao31 t490.length co31] ?_
      with_reducible refine (laws_sameInts.calls k _ _ t486 _ _ t490 true _ ?side1 ?side2 ?side3 ?side4 A17.out).mono ?_
      (case side1 => exact cS_ (Kd.R_reads' HO488.out).2.2)
      (case side2 => exact (Kd.R_reads' HO488.out).2.1)
      (case side3 => exact cS_ (Kd.R_reads' HO492.out).2.2)
      (case side4 => exact (Kd.R_reads' HO492.out).2.1)
      rintro e w' ⟨rfl,⟨nd,rfl⟩⟩
      refine ⟨_,rfl,?_⟩
      refine hK.out _ _ ((blk_cell BK484.out 0).trans rfl) (fun hHeld => ?_)
      clear hK K
      refine norm_ (a' := ?_) ?_ ?_
      rotate_left
      ·show Act.put _ (some 49) _ = _
       simp only [pt_,pn_,sI_,s0_,s1_,i64_w,i32_w]
       rfl
      refine pU_ 7 (some 50) (mk_ 25 255) ?_
      refine pU_ 8 (some 51) (mk_ 25 511) ?_
      refine pU_ 9 (some 52) (mk_ 25 1023) ?_
      refine take_ (i := 10) (N := some 53) (v := ?_) (a' := ?_) #[true,true,true,true,true,true,true,true,true,true,true,false,false,false,false,false,false,false,false,false,false,false,false,false,false] rfl rfl (take_ofW HT_.out HW_.out (by kernel_rfl)) (fun _ _ _ h => h) (Or.inl ⟨by rfl,?_⟩) hHeld ?_ ?_
      rotate_left
      ·intro w' s0
       go_simp
       with_reducible rfl
      rotate_left
      ·simp only [pt_,pn_,sI_,s0_,s1_,i64_w,i32_w]
       rfl
      refine take_ (i := 12) (N := some 55) (v := ?_) (a' := ?_) #[true,true,true,true,true,true,true,true,true,true,true,false,true,false,false,false,false,false,false,false,false,false,false,false,false] rfl rfl (take_ofW HT_.out HW_.out (by kernel_rfl)) (fun _ _ _ h => h) (Or.inl ⟨by rfl,?_⟩) hHeld ?_ ?_
      rotate_left
      ·intro w' s0
       go_simp
       with_reducible rfl
      rotate_left
      ·simp only [pt_,pn_,sI_,s0_,s1_,i64_w,i32_w]
       rfl
      refine oN_ 11 (some 54) (mk_ 25 8191) (fun K hK => ?_)
      refine gO_ Try.func26 #[.agg #[.slice Ao10 t475.length co10]] ?_
      with_reducible refine (impl_MemoryOk.calls k _ _ t475 t494 _ ?side1 ?side2 A19.out).mono ?_
      (case side1 => exact cS_ (Kd.V_reads' HO477.out).2.2)
      (case side2 => exact (Kd.V_reads' HO477.out).2.1)
      rintro e w32 ⟨rfl,hb⟩
      refine ⟨_,rfl,?_⟩
      have n0 := aM_ (Kd.V_below (by (with_reducible repeat (first | apply Kd.V_alloc | apply Kd.V_drewN | apply Kd.V_drew));exact HO477.out) hb)
      have n1 := aM_ (bQ_ HO480.out hb)
      have n2 := aM_ (bR_ HO488.out hb)
      have n3 := aM_ (bR_ HO492.out hb)
      have n4 := aM_ (nB_ BK484.out hb)
      have n5 := aM_ (sT_ HB.out hb)
      clear HO477
      clear HO480
      clear HO488
      clear HO492
      clear BK484
      clear HB
      have HO477 := n0
      have HO480 := n1
      have HO488 := n2
      have HO492 := n3
      have BK484 := n4
      have HB := n5
      clear n0 n1 n2 n3 n4 n5
      (try clear hb)
      (try clear hb2)
      (try clear hk)
      (try clear hi)
      refine hK.out _ _ ((blk_cell BK484.out 0).trans rfl) (fun hHeld => ?_)
      clear hK K
      refine norm_ (a' := ?_) ?_ ?_
      rotate_left
      ·show Act.put _ (some 54) _ = _
       simp only [pt_,pn_,sI_,s0_,s1_,i64_w,i32_w]
       rfl
      refine oN_ 13 (some 56) (mk_ 25 16383) (fun K hK => ?_)
      refine gO_ Try.func27 #[.agg #[.slice Ao10 t475.length co10]] ?_
      with_reducible refine (spec_MemoryOk.calls k _ _ t475 t495 _ ?side1 ?side2 A20.out).mono ?_
      (case side1 => exact cS_ (Kd.V_reads' HO477.out).2.2)
      (case side2 => exact (Kd.V_reads' HO477.out).2.1)
      rintro e w33 ⟨rfl,hb⟩
      refine ⟨_,rfl,?_⟩
      have n0 := aM_ (Kd.V_below (by (with_reducible repeat (first | apply Kd.V_alloc | apply Kd.V_drewN | apply Kd.V_drew));exact HO477.out) hb)
      have n1 := aM_ (bQ_ HO480.out hb)
      have n2 := aM_ (bR_ HO488.out hb)
      have n3 := aM_ (bR_ HO492.out hb)
      have n4 := aM_ (nB_ BK484.out hb)
      have n5 := aM_ (sT_ HB.out hb)
      clear HO477
      clear HO480
      clear HO488
      clear HO492
      clear BK484
      clear HB
      have HO477 := n0
      have HO480 := n1
      have HO488 := n2
      have HO492 := n3
      have BK484 := n4
      have HB := n5
      clear n0 n1 n2 n3 n4 n5
      (try clear hb)
      (try clear hb2)
      (try clear hk)
      (try clear hi)
      refine hK.out _ _ ((blk_cell BK484.out 0).trans rfl) (fun hHeld => ?_)
      clear hK K
      refine norm_ (a' := ?_) ?_ ?_
      rotate_left
      ·show Act.put _ (some 56) _ = _
       simp only [pt_,pn_,sI_,s0_,s1_,i64_w,i32_w]
       rfl
      refine pU_ 14 (some 57) (mk_ 25 32767) ?_
      refine pU_ 15 (some 58) (mk_ 25 65535) ?_
      refine pU_ 16 (some 59) (mk_ 25 131071) ?_
      refine pU_ 18 (some 61) (mk_ 25 393215) ?_
      refine pU_ 21 (some 64) (mk_ 25 2490367) ?_
      refine take_ (i := 17) (N := some 60) (v := ?_) (a' := ?_) #[true,true,true,true,true,true,true,true,true,true,true,true,true,true,true,true,true,true,true,false,false,true,false,false,false] rfl rfl (take_ofW HT_.out HW_.out (by kernel_rfl)) (fun _ _ _ h => h) (Or.inl ⟨by rfl,?_⟩) hHeld ?_ ?_
      rotate_left
      ·intro w' s0
       go_simp
       with_reducible rfl
      rotate_left
      ·simp only [pt_,pn_,sI_,s0_,s1_,i64_w,i32_w]
       rfl
      refine take_ (i := 20) (N := some 63) (v := ?_) (a' := ?_) #[true,true,true,true,true,true,true,true,true,true,true,true,true,true,true,true,true,true,true,false,true,true,false,false,false] rfl rfl (take_ofW HT_.out HW_.out (by kernel_rfl)) (fun _ _ _ h => h) (Or.inl ⟨by rfl,?_⟩) hHeld ?_ ?_
      rotate_left
      ·intro w' s0
       go_simp
       with_reducible rfl
      rotate_left
      ·simp only [pt_,pn_,sI_,s0_,s1_,i64_w,i32_w]
       rfl
      refine oN_ 19 (some 62) (mk_ 25 4194303) (fun K hK => ?_)
      refine gO_ Try.func28 #[.agg #[.slice Ao10 t475.length co10],.slice Ao12 t478.length co12] ?_
      with_reducible refine (impl_ViewOk.calls k _ _ t475 _ _ t478 t496 _ ?side1 ?side2 ?side3 ?side4 A27.out).mono ?_
      (case side1 => exact cS_ (Kd.V_reads' HO477.out).2.2)
      (case side2 => exact (Kd.V_reads' HO477.out).2.1)
      (case side3 => exact cS_ (Kd.Q_reads' HO480.out).2.2)
      (case side4 => exact (Kd.Q_reads' HO480.out).2.1)
      rintro e w34 ⟨rfl,hb⟩
      refine ⟨_,rfl,?_⟩
      have n0 := aM_ (Kd.V_below (by (with_reducible repeat (first | apply Kd.V_alloc | apply Kd.V_drewN | apply Kd.V_drew));exact HO477.out) hb)
      have n1 := aM_ (bQ_ HO480.out hb)
      have n2 := aM_ (bR_ HO488.out hb)
      have n3 := aM_ (bR_ HO492.out hb)
      have n4 := aM_ (nB_ BK484.out hb)
      have n5 := aM_ (sT_ HB.out hb)
      clear HO477
      clear HO480
      clear HO488
      clear HO492
      clear BK484
      clear HB
      have HO477 := n0
      have HO480 := n1
      have HO488 := n2
      have HO492 := n3
      have BK484 := n4
      have HB := n5
      clear n0 n1 n2 n3 n4 n5
      (try clear hb)
      (try clear hb2)
      (try clear hk)
      (try clear hi)
      refine hK.out _ _ ((blk_cell BK484.out 0).trans rfl) (fun hHeld => ?_)
      clear hK K
      refine norm_ (a' := ?_) ?_ ?_
      rotate_left
      ·show Act.put _ (some 62) _ = _
       simp only [pt_,pn_,sI_,s0_,s1_,i64_w,i32_w]
       rfl
      refine oN_ 22 (some 65) (mk_ 25 8388607) (fun K hK => ?_)
      refine gO_ Try.func29 #[.agg #[.slice Ao10 t475.length co10],.slice Ao12 t478.length co12] ?_
      with_reducible refine (spec_ViewOk.calls k _ _ t475 _ _ t478 t497 _ ?side1 ?side2 ?side3 ?side4 A28.out).mono ?_
      (case side1 => exact cS_ (Kd.V_reads' HO477.out).2.2)
      (case side2 => exact (Kd.V_reads' HO477.out).2.1)
      (case side3 => exact cS_ (Kd.Q_reads' HO480.out).2.2)
      (case side4 => exact (Kd.Q_reads' HO480.out).2.1)
      rintro e w35 ⟨rfl,hb⟩
      refine ⟨_,rfl,?_⟩
      have n0 := aM_ (Kd.V_below (by (with_reducible repeat (first | apply Kd.V_alloc | apply Kd.V_drewN | apply Kd.V_drew));exact HO477.out) hb)
      have n1 := aM_ (bQ_ HO480.out hb)
      have n2 := aM_ (bR_ HO488.out hb)
      have n3 := aM_ (bR_ HO492.out hb)
      have n4 := aM_ (nB_ BK484.out hb)
      have n5 := aM_ (sT_ HB.out hb)
      clear HO477
      clear HO480
      clear HO488
      clear HO492
      clear BK484
      clear HB
      have HO477 := n0
      have HO480 := n1
      have HO488 := n2
      have HO492 := n3
      have BK484 := n4
      have HB := n5
      clear n0 n1 n2 n3 n4 n5
      (try clear hb)
      (try clear hb2)
      (try clear hk)
      (try clear hi)
      refine hK.out _ _ ((blk_cell BK484.out 0).trans rfl) (fun hHeld => ?_)
      clear hK K
      refine norm_ (a' := ?_) ?_ ?_
      rotate_left
      ·show Act.put _ (some 65) _ = _
       simp only [pt_,pn_,sI_,s0_,s1_,i64_w,i32_w]
       rfl
      refine pU_ 23 (some 66) (mk_ 25 16777215) ?_
      refine pU_ 24 (some 67) (mk_ 25 33554431) ?_
      refine done_ (done_of HT_.out (by kernel_rfl)) ?_
      try go_wp2
      go_meet
      case rel => exact ⟨_,((t496 != t497)),(by first | rfl | (simp;done) | (simp [*];done)),H',⟨by first | omega | exact Nat.le_refl _⟩,⟨by (with_reducible repeat (first | apply qA_ | apply qN_ | apply qD_));exact Kd.Q_mono HO480.out (fun _ hk => hk.1.2)⟩,⟨by (with_reducible repeat (first | apply rA_ | apply rN_ | apply rD_));exact Kd.R_mono HO488.out (fun _ hk => hk.1.2)⟩,⟨by (with_reducible repeat (first | apply Kd.V_alloc | apply Kd.V_drewN | apply Kd.V_drew));exact Kd.V_mono HO477.out (fun _ hk => ⟨hk.1.1.1,⟨hk.1.2,hk.1.1.2⟩⟩)⟩,⟨rW_ BK484.out⟩,⟨gW_ HB.out⟩⟩
    ·replace c18 := Bool.eq_false_iff.mpr c18
     subst c18
     have H1 : (laws_FnLoad.j0 k t478 t481 t482 t485 t486 true t475) = some r := by rw [if_neg (show ¬ (false = true) by decide)] at H;exact H
     clear H
     have H := H1
     clear H1
     have H' := aM_ H
     clear H
     try go_wp2
     have n0 := aM_ (Kd.V_drew HO477.out)
     have n1 := aM_ (Kd.Q_drew HO480.out)
     have n2 := aM_ (Kd.R_drew HO488.out)
     have n3 := aM_ (Kd.R_drew HO492.out)
     have n4 := aM_ (blk_drew BK484.out)
     have n5 := aM_ (below_drew1 HB.out)
     clear HO477
     clear HO480
     clear HO488
     clear HO492
     clear BK484
     clear HB
     have HO477 := n0
     have HO480 := n1
     have HO488 := n2
     have HO492 := n3
     have BK484 := n4
     have HB := n5
     clear n0 n1 n2 n3 n4 n5
     obtain ⟨Ao37,co37,eo37⟩ := Kd.R_slice HO488.out
     (first | subst eo37 | (injection eo37 with f1_ f2_ f3_;have f4_ := f1_.symm;have f5_ := f3_.symm;clear f1_ f2_ f3_;subst f4_;subst f5_))
     obtain ⟨Ao38,co38,eo38⟩ := Kd.R_slice HO492.out
     (first | subst eo38 | (injection eo38 with f1_ f2_ f3_;have f4_ := f1_.symm;have f5_ := f3_.symm;clear f1_ f2_ f3_;subst f4_;subst f5_))
     refine start_ (n := 25) (S := fun w' => True) (ds := []) (mk_ 25 0) (by kernel_rfl) rfl rfl trivial (fun hHeld => ?_);refine with_tabW laws_FnLoad.tab6 laws_FnLoad.bits6 (fun HT_ HW_ => ?_)
     generalize w15.drew = w36 at HO477 HO480 HO488 HO492 BK484 HB hHeld ⊢
     refine pU_ 0 (some 43) (mk_ 25 1) ?_
     refine pU_ 1 (some 44) (mk_ 25 3) ?_
     refine pU_ 2 (some 45) (mk_ 25 7) ?_
     refine pU_ 3 (some 46) (mk_ 25 15) ?_
     refine pU_ 4 (some 47) (mk_ 25 31) ?_
     refine pU_ 5 (some 48) (mk_ 25 63) ?_
     refine oN_ 6 (some 49) (mk_ 25 127) (fun K hK => ?_)
     refine gO_ Try.func25 #[.slice Ao37 t486.length co37,.slice Ao38 t490.length co38] ?_
     with_reducible refine (laws_sameInts.calls k _ _ t486 _ _ t490 false _ ?side1 ?side2 ?side3 ?side4 A17.out).mono ?_
     (case side1 => exact cS_ (Kd.R_reads' HO488.out).2.2)
     (case side2 => exact (Kd.R_reads' HO488.out).2.1)
     (case side3 => exact cS_ (Kd.R_reads' HO492.out).2.2)
     (case side4 => exact (Kd.R_reads' HO492.out).2.1)
     rintro e w' ⟨rfl,⟨nd,rfl⟩⟩
     refine ⟨_,rfl,?_⟩
     refine hK.out _ _ trivial (fun hHeld => ?_)
     clear hK K
     refine norm_ (a' := ?_) ?_ ?_
     rotate_left
     ·show Act.put _ (some 49) _ = _
      simp only [pt_,pn_,sI_,s0_,s1_,i64_w,i32_w]
      rfl
     refine pU_ 7 (some 50) (mk_ 25 255) ?_
     refine pU_ 8 (some 51) (mk_ 25 511) ?_
     refine pU_ 9 (some 52) (mk_ 25 1023) ?_
     refine pX_ 10 (some 53) (mk_ 25 2047) ?_
     refine pX_ 11 (some 54) (mk_ 25 4095) ?_
     refine pX_ 12 (some 55) (mk_ 25 8191) ?_
     refine pX_ 13 (some 56) (mk_ 25 16383) ?_
     refine pX_ 14 (some 57) (mk_ 25 32767) ?_
     refine pU_ 15 (some 58) (mk_ 25 65535) ?_
     refine pU_ 16 (some 59) (mk_ 25 131071) ?_
     refine pX_ 17 (some 60) (mk_ 25 262143) ?_
     refine pX_ 18 (some 61) (mk_ 25 524287) ?_
     refine pX_ 19 (some 62) (mk_ 25 1048575) ?_
     refine pX_ 20 (some 63) (mk_ 25 2097151) ?_
     refine pX_ 21 (some 64) (mk_ 25 4194303) ?_
     refine pX_ 22 (some 65) (mk_ 25 8388607) ?_
     refine pX_ 23 (some 66) (mk_ 25 16777215) ?_
     refine pU_ 24 (some 67) (mk_ 25 33554431) ?_
     refine done_ (done_of HT_.out (by kernel_rfl)) ?_
     try go_wp2
     go_meet
     case rel => exact ⟨_,(true),(by first | rfl | (simp;done) | (simp [*];done)),H',⟨by first | omega | exact Nat.le_refl _⟩,⟨by (with_reducible repeat (first | apply qA_ | apply qN_ | apply qD_));exact Kd.Q_mono HO480.out (fun _ hk => hk.1.2)⟩,⟨by (with_reducible repeat (first | apply rA_ | apply rN_ | apply rD_));exact Kd.R_mono HO488.out (fun _ hk => hk.1.2)⟩,⟨by (with_reducible repeat (first | apply Kd.V_alloc | apply Kd.V_drewN | apply Kd.V_drew));exact Kd.V_mono HO477.out (fun _ hk => ⟨hk.1.1.1,⟨hk.1.2,hk.1.1.2⟩⟩)⟩,⟨rW_ BK484.out⟩,⟨gW_ HB.out⟩⟩
   ·rw [if_neg c16] at H
    have c16b0 : (t485 == t489) = false := beq_eq_false_iff_ne.mpr c16
    have c16b1 : (t485 != t489) = true := bne_iff_ne.mpr c16
    (first | rw [c16b0] | (simp only [i64_w,i32_w];rw [c16b0]) | skip)
    have H' := aM_ H
    clear H
    try go_wp2
    have n0 := aM_ (Kd.V_drew HO477.out)
    have n1 := aM_ (Kd.Q_drew HO480.out)
    have n2 := aM_ (Kd.R_drew HO488.out)
    have n3 := aM_ (Kd.R_drew HO492.out)
    have n4 := aM_ (blk_drew BK484.out)
    have n5 := aM_ (below_drew1 HB.out)
    clear HO477
    clear HO480
    clear HO488
    clear HO492
    clear BK484
    clear HB
    have HO477 := n0
    have HO480 := n1
    have HO488 := n2
    have HO492 := n3
    have BK484 := n4
    have HB := n5
    clear n0 n1 n2 n3 n4 n5
    refine start_ (n := 25) (S := fun w' => True) (ds := []) (mk_ 25 0) (by kernel_rfl) rfl rfl trivial (fun hHeld => ?_);refine with_tabW laws_FnLoad.tab6 laws_FnLoad.bits6 (fun HT_ HW_ => ?_)
    generalize w15.drew = w39 at HO477 HO480 HO488 HO492 BK484 HB hHeld ⊢
    refine pU_ 0 (some 43) (mk_ 25 1) ?_
    refine pU_ 1 (some 44) (mk_ 25 3) ?_
    refine pU_ 2 (some 45) (mk_ 25 7) ?_
    refine pU_ 3 (some 46) (mk_ 25 15) ?_
    refine pX_ 4 (some 47) (mk_ 25 31) ?_
    refine pX_ 5 (some 48) (mk_ 25 63) ?_
    refine pX_ 6 (some 49) (mk_ 25 127) ?_
    refine pX_ 7 (some 50) (mk_ 25 255) ?_
    refine pU_ 8 (some 51) (mk_ 25 511) ?_
    refine pU_ 9 (some 52) (mk_ 25 1023) ?_
    refine pX_ 10 (some 53) (mk_ 25 2047) ?_
    refine pX_ 11 (some 54) (mk_ 25 4095) ?_
    refine pX_ 12 (some 55) (mk_ 25 8191) ?_
    refine pX_ 13 (some 56) (mk_ 25 16383) ?_
    refine pX_ 14 (some 57) (mk_ 25 32767) ?_
    refine pU_ 15 (some 58) (mk_ 25 65535) ?_
    refine pU_ 16 (some 59) (mk_ 25 131071) ?_
    refine pX_ 17 (some 60) (mk_ 25 262143) ?_
    refine pX_ 18 (some 61) (mk_ 25 524287) ?_
    refine pX_ 19 (some 62) (mk_ 25 1048575) ?_
    refine pX_ 20 (some 63) (mk_ 25 2097151) ?_
    refine pX_ 21 (some 64) (mk_ 25 4194303) ?_
    refine pX_ 22 (some 65) (mk_ 25 8388607) ?_
    refine pX_ 23 (some 66) (mk_ 25 16777215) ?_
    refine pU_ 24 (some 67) (mk_ 25 33554431) ?_
    refine done_ (done_of HT_.out (by kernel_rfl)) ?_
    try go_wp2
    go_meet
    case rel => exact ⟨_,(true),(by first | rfl | (simp;done) | (simp [*];done)),H',⟨by first | omega | exact Nat.le_refl _⟩,⟨by (with_reducible repeat (first | apply qA_ | apply qN_ | apply qD_));exact Kd.Q_mono HO480.out (fun _ hk => hk.1.2)⟩,⟨by (with_reducible repeat (first | apply rA_ | apply rN_ | apply rD_));exact Kd.R_mono HO488.out (fun _ hk => hk.1.2)⟩,⟨by (with_reducible repeat (first | apply Kd.V_alloc | apply Kd.V_drewN | apply Kd.V_drew));exact Kd.V_mono HO477.out (fun _ hk => ⟨hk.1.1.1,⟨hk.1.2,hk.1.1.2⟩⟩)⟩,⟨rW_ BK484.out⟩,⟨gW_ HB.out⟩⟩
  case rest =>
   clear HC7
   try clear c1
   try clear c2
   try clear p2
   try clear c16
   try clear c16b0
   try clear c16b1
   try clear c18
   try clear c25
   try clear c26
   try clear c27
   try clear c28
   try clear c29
   obtain ⟨kq,x67_6,rfl,HA,HJ6,HO_4,HO_9,HO_485000,BK484,HB⟩ := hcut
   cases kq with
   | zero => exact absurd HA.out (by simp [laws_FnLoad.j0])
   | succ kj6 =>
    have H := HA.out
    clear HA
    simp only [laws_FnLoad.j0] at H
    by_cases c40 : x67_6 = true
    ·subst c40
     have H1 : (some false) = some r := by rw [if_pos rfl] at H;exact H
     clear H
     have H := H1
     clear H1
     obtain rfl := Option.some.inj H
     go_wp2
     go_ret
     exact fI_ HB.out
    ·replace c40 := Bool.eq_false_iff.mpr c40
     subst c40
     have H1 : ((spec_MemoryOk.f kj6 t475).bind fun t498 => (if t498 = true then ((spec_ViewOk.f kj6 t475 t478).bind fun t499 => (if t499 = true then (if t481 < 0 then (laws_FnLoad.j1 kj6 t478 t481 t482 t485 t486 true t475) else (laws_FnLoad.j1 kj6 t478 t481 t482 t485 t486 (decide (t481 ≥ 24)) t475)) else (laws_FnLoad.j1 kj6 t478 t481 t482 t485 t486 true t475))) else (laws_FnLoad.j1 kj6 t478 t481 t482 t485 t486 true t475))) = some r := by rw [if_neg (show ¬ (false = true) by decide)] at H;exact H
     clear H
     have H := H1
     clear H1
     have HC41 := aM_ H
     clear H
     go_upto_region 8 with (fail)
     go_cut [84] (fun v84 wc => ∃ (kq : Nat) (x84_40 : Bool),v84 = .bool x84_40 ∧ Aside0 (laws_FnLoad.j1 kq t478 t481 t482 t485 t486 x84_40 t475 = some r) ∧ Aside0 (kq ≤ kj6) ∧ Aside0 (Kd.Q (Kd.int .i64) 3 wc w.heap.size (fun k_ => some k_ ≠ (v487 : Value).ownBlock) (.slice Ao12 t478.length co12) t478) ∧ Aside0 (Kd.R (Kd.int .i64) 3 wc w.heap.size (fun k_ => some k_ ≠ ((.slice Ao12 t478.length co12) : Value).ownBlock) v487 t486) ∧ Aside0 (Kd.V (Kd.slice 43 k43) 44 wc w.heap.size (fun k_ => some k_ ≠ ((.slice Ao12 t478.length co12) : Value).ownBlock ∧ some k_ ≠ (v487 : Value).ownBlock ∧ k_ ≠ gb484) (.slice Ao10 t475.length co10) t475) ∧ Aside0 (wc.heap[gb484]? = some (.cells #[(.slice Ao10 t475.length co10)] 24 (0,0))) ∧ Aside0 (Below w.heap.size w wc))
     case first =>
      have H := HC41.out
      clear HC41
      replace H := Option.bind_eq_some_iff.mp H
      obtain ⟨t498,A420,H⟩ := H
      replace H : (if t498 = true then ((spec_ViewOk.f kj6 t475 t478).bind fun t499 => (if t499 = true then (if t481 < 0 then (laws_FnLoad.j1 kj6 t478 t481 t482 t485 t486 true t475) else (laws_FnLoad.j1 kj6 t478 t481 t482 t485 t486 (decide (t481 ≥ 24)) t475)) else (laws_FnLoad.j1 kj6 t478 t481 t482 t485 t486 true t475))) else (laws_FnLoad.j1 kj6 t478 t481 t482 t485 t486 true t475)) = some r := H
      have A42 := aM_ A420
      clear A420
      by_cases c43 : t498 = true
      ·subst c43
       have H1 : ((spec_ViewOk.f kj6 t475 t478).bind fun t499 => (if t499 = true then (if t481 < 0 then (laws_FnLoad.j1 kj6 t478 t481 t482 t485 t486 true t475) else (laws_FnLoad.j1 kj6 t478 t481 t482 t485 t486 (decide (t481 ≥ 24)) t475)) else (laws_FnLoad.j1 kj6 t478 t481 t482 t485 t486 true t475))) = some r := by rw [if_pos rfl] at H;exact H
       clear H
       have H := H1
       clear H1
       replace H := Option.bind_eq_some_iff.mp H
       obtain ⟨t499,A440,H⟩ := H
       replace H : (if t499 = true then (if t481 < 0 then (laws_FnLoad.j1 kj6 t478 t481 t482 t485 t486 true t475) else (laws_FnLoad.j1 kj6 t478 t481 t482 t485 t486 (decide (t481 ≥ 24)) t475)) else (laws_FnLoad.j1 kj6 t478 t481 t482 t485 t486 true t475)) = some r := H
       have A44 := aM_ A440
       clear A440
       by_cases c45 : t499 = true
       ·subst c45
        have H1 : (if t481 < 0 then (laws_FnLoad.j1 kj6 t478 t481 t482 t485 t486 true t475) else (laws_FnLoad.j1 kj6 t478 t481 t482 t485 t486 (decide (t481 ≥ 24)) t475)) = some r := by rw [if_pos rfl] at H;exact H
        clear H
        have H := H1
        clear H1
        by_cases c46 : t481 < 0
        ·rw [if_pos c46] at H
         have c46b0 : decide (t481 < 0) = true := decide_eq_true c46
         clear c46
         (first | rw [c46b0] | (simp only [i64_w,i32_w];rw [c46b0]) | skip)
         have H' := aM_ H
         clear H
         have hcz47_0 : wc.cell? ⟨gb484,0,none⟩ = some (.slice Ao10 t475.length co10) := (blk_cell BK484.out 0).trans rfl
         have hfz47_0 := blk_frozen BK484.out 0
         go_wp2_with (first | ((with_reducible refine gate_callee (f := 27) rfl ?_);refine gL_ (some 69) Try.func27 #[.agg #[.slice Ao10 t475.length co10]] ?_;(with_reducible refine (spec_MemoryOk.calls kj6 _ _ t475 true _ ?side1 ?side2 A42.out).mono ?_);(case side1 => exact cS_ (Kd.V_reads' HO_485000.out).2.2);(case side2 => exact (Kd.V_reads' HO_485000.out).2.1);rintro e w48 ⟨rfl,hb⟩;refine ⟨_,rfl,?_⟩;have n0 := aM_ (bQ_ HO_4.out hb);have n1 := aM_ (bR_ HO_9.out hb);have n2 := aM_ (Kd.V_below (by (with_reducible repeat (first | apply Kd.V_alloc | apply Kd.V_drewN | apply Kd.V_drew));exact HO_485000.out) hb);have n3 := aM_ (nB_ BK484.out hb);have n4 := aM_ (sT_ HB.out hb);clear HO_4;clear HO_9;clear HO_485000;clear BK484;clear HB;have HO_4 := n0;have HO_9 := n1;have HO_485000 := n2;have BK484 := n3;have HB := n4;clear n0 n1 n2 n3 n4;have hcz49_0 : w48.cell? ⟨gb484,0,none⟩ = some (.slice Ao10 t475.length co10) := (blk_cell BK484.out 0).trans rfl;have hfz49_0 := blk_frozen BK484.out 0) | (go_at_call 29;(with_reducible refine (spec_ViewOk.calls kj6 _ _ t475 _ _ t478 true _ ?side1 ?side2 ?side3 ?side4 A44.out).mono ?_);(case side1 => exact cS_ (Kd.V_reads' HO_485000.out).2.2);(case side2 => exact (Kd.V_reads' HO_485000.out).2.1);(case side3 => exact cS_ (Kd.Q_reads' HO_4.out).2.2);(case side4 => exact (Kd.Q_reads' HO_4.out).2.1);rintro e w50 ⟨rfl,hb⟩;have n0 := aM_ (bQ_ HO_4.out hb);have n1 := aM_ (bR_ HO_9.out hb);have n2 := aM_ (Kd.V_below (by (with_reducible repeat (first | apply Kd.V_alloc | apply Kd.V_drewN | apply Kd.V_drew));exact HO_485000.out) hb);have n3 := aM_ (nB_ BK484.out hb);have n4 := aM_ (sT_ HB.out hb);clear HO_4;clear HO_9;clear HO_485000;clear BK484;clear HB;have HO_4 := n0;have HO_9 := n1;have HO_485000 := n2;have BK484 := n3;have HB := n4;clear n0 n1 n2 n3 n4))
         go_meet
         case rel => exact ⟨_,(true),(by first | rfl | (simp;done) | (simp [*];done)),H',⟨by have := HJ6.out;first | omega | exact Nat.le_refl _⟩,⟨by (with_reducible repeat (first | apply qA_ | apply qN_ | apply qD_));exact HO_4.out⟩,⟨by (with_reducible repeat (first | apply rA_ | apply rN_ | apply rD_));exact HO_9.out⟩,⟨by (with_reducible repeat (first | apply Kd.V_alloc | apply Kd.V_drewN | apply Kd.V_drew));exact HO_485000.out⟩,⟨rW_ BK484.out⟩,⟨gW_ HB.out⟩⟩
        ·rw [if_neg c46] at H
         have c46b0 : decide (t481 < 0) = false := decide_eq_false c46
         clear c46
         (first | rw [c46b0] | (simp only [i64_w,i32_w];rw [c46b0]) | skip)
         have H' := aM_ H
         clear H
         have hcz51_0 : wc.cell? ⟨gb484,0,none⟩ = some (.slice Ao10 t475.length co10) := (blk_cell BK484.out 0).trans rfl
         have hfz51_0 := blk_frozen BK484.out 0
         go_wp2_with (first | ((with_reducible refine gate_callee (f := 27) rfl ?_);refine gL_ (some 69) Try.func27 #[.agg #[.slice Ao10 t475.length co10]] ?_;(with_reducible refine (spec_MemoryOk.calls kj6 _ _ t475 true _ ?side1 ?side2 A42.out).mono ?_);(case side1 => exact cS_ (Kd.V_reads' HO_485000.out).2.2);(case side2 => exact (Kd.V_reads' HO_485000.out).2.1);rintro e w52 ⟨rfl,hb⟩;refine ⟨_,rfl,?_⟩;have n0 := aM_ (bQ_ HO_4.out hb);have n1 := aM_ (bR_ HO_9.out hb);have n2 := aM_ (Kd.V_below (by (with_reducible repeat (first | apply Kd.V_alloc | apply Kd.V_drewN | apply Kd.V_drew));exact HO_485000.out) hb);have n3 := aM_ (nB_ BK484.out hb);have n4 := aM_ (sT_ HB.out hb);clear HO_4;clear HO_9;clear HO_485000;clear BK484;clear HB;have HO_4 := n0;have HO_9 := n1;have HO_485000 := n2;have BK484 := n3;have HB := n4;clear n0 n1 n2 n3 n4;have hcz53_0 : w52.cell? ⟨gb484,0,none⟩ = some (.slice Ao10 t475.length co10) := (blk_cell BK484.out 0).trans rfl;have hfz53_0 := blk_frozen BK484.out 0) | (go_at_call 29;(with_reducible refine (spec_ViewOk.calls kj6 _ _ t475 _ _ t478 true _ ?side1 ?side2 ?side3 ?side4 A44.out).mono ?_);(case side1 => exact cS_ (Kd.V_reads' HO_485000.out).2.2);(case side2 => exact (Kd.V_reads' HO_485000.out).2.1);(case side3 => exact cS_ (Kd.Q_reads' HO_4.out).2.2);(case side4 => exact (Kd.Q_reads' HO_4.out).2.1);rintro e w54 ⟨rfl,hb⟩;have n0 := aM_ (bQ_ HO_4.out hb);have n1 := aM_ (bR_ HO_9.out hb);have n2 := aM_ (Kd.V_below (by (with_reducible repeat (first | apply Kd.V_alloc | apply Kd.V_drewN | apply Kd.V_drew));exact HO_485000.out) hb);have n3 := aM_ (nB_ BK484.out hb);have n4 := aM_ (sT_ HB.out hb);clear HO_4;clear HO_9;clear HO_485000;clear BK484;clear HB;have HO_4 := n0;have HO_9 := n1;have HO_485000 := n2;have BK484 := n3;have HB := n4;clear n0 n1 n2 n3 n4))
         go_meet
         case rel => exact ⟨_,(decide (t481 ≥ 24)),(by first | rfl | (simp;done) | (simp [*];done)),H',⟨by have := HJ6.out;first | omega | exact Nat.le_refl _⟩,⟨by (with_reducible repeat (first | apply qA_ | apply qN_ | apply qD_));exact HO_4.out⟩,⟨by (with_reducible repeat (first | apply rA_ | apply rN_ | apply rD_));exact HO_9.out⟩,⟨by (with_reducible repeat (first | apply Kd.V_alloc | apply Kd.V_drewN | apply Kd.V_drew));exact HO_485000.out⟩,⟨rW_ BK484.out⟩,⟨gW_ HB.out⟩⟩
       ·replace c45 := Bool.eq_false_iff.mpr c45
        subst c45
        have H1 : (laws_FnLoad.j1 kj6 t478 t481 t482 t485 t486 true t475) = some r := by rw [if_neg (show ¬ (false = true) by decide)] at H;exact H
        clear H
        have H := H1
        clear H1
        have H' := aM_ H
        clear H
        have hcz55_0 : wc.cell? ⟨gb484,0,none⟩ = some (.slice Ao10 t475.length co10) := (blk_cell BK484.out 0).trans rfl
        have hfz55_0 := blk_frozen BK484.out 0
        go_wp2_with (first | ((with_reducible refine gate_callee (f := 27) rfl ?_);refine gL_ (some 69) Try.func27 #[.agg #[.slice Ao10 t475.length co10]] ?_;(with_reducible refine (spec_MemoryOk.calls kj6 _ _ t475 true _ ?side1 ?side2 A42.out).mono ?_);(case side1 => exact cS_ (Kd.V_reads' HO_485000.out).2.2);(case side2 => exact (Kd.V_reads' HO_485000.out).2.1);rintro e w56 ⟨rfl,hb⟩;refine ⟨_,rfl,?_⟩;have n0 := aM_ (bQ_ HO_4.out hb);have n1 := aM_ (bR_ HO_9.out hb);have n2 := aM_ (Kd.V_below (by (with_reducible repeat (first | apply Kd.V_alloc | apply Kd.V_drewN | apply Kd.V_drew));exact HO_485000.out) hb);have n3 := aM_ (nB_ BK484.out hb);have n4 := aM_ (sT_ HB.out hb);clear HO_4;clear HO_9;clear HO_485000;clear BK484;clear HB;have HO_4 := n0;have HO_9 := n1;have HO_485000 := n2;have BK484 := n3;have HB := n4;clear n0 n1 n2 n3 n4;have hcz57_0 : w56.cell? ⟨gb484,0,none⟩ = some (.slice Ao10 t475.length co10) := (blk_cell BK484.out 0).trans rfl;have hfz57_0 := blk_frozen BK484.out 0) | (go_at_call 29;(with_reducible refine (spec_ViewOk.calls kj6 _ _ t475 _ _ t478 false _ ?side1 ?side2 ?side3 ?side4 A44.out).mono ?_);(case side1 => exact cS_ (Kd.V_reads' HO_485000.out).2.2);(case side2 => exact (Kd.V_reads' HO_485000.out).2.1);(case side3 => exact cS_ (Kd.Q_reads' HO_4.out).2.2);(case side4 => exact (Kd.Q_reads' HO_4.out).2.1);rintro e w58 ⟨rfl,hb⟩;have n0 := aM_ (bQ_ HO_4.out hb);have n1 := aM_ (bR_ HO_9.out hb);have n2 := aM_ (Kd.V_below (by (with_reducible repeat (first | apply Kd.V_alloc | apply Kd.V_drewN | apply Kd.V_drew));exact HO_485000.out) hb);have n3 := aM_ (nB_ BK484.out hb);have n4 := aM_ (sT_ HB.out hb);clear HO_4;clear HO_9;clear HO_485000;clear BK484;clear HB;have HO_4 := n0;have HO_9 := n1;have HO_485000 := n2;have BK484 := n3;have HB := n4;clear n0 n1 n2 n3 n4))
        go_meet
        case rel => exact ⟨_,(true),(by first | rfl | (simp;done) | (simp [*];done)),H',⟨by have := HJ6.out;first | omega | exact Nat.le_refl _⟩,⟨by (with_reducible repeat (first | apply qA_ | apply qN_ | apply qD_));exact HO_4.out⟩,⟨by (with_reducible repeat (first | apply rA_ | apply rN_ | apply rD_));exact HO_9.out⟩,⟨by (with_reducible repeat (first | apply Kd.V_alloc | apply Kd.V_drewN | apply Kd.V_drew));exact HO_485000.out⟩,⟨rW_ BK484.out⟩,⟨gW_ HB.out⟩⟩
      ·replace c43 := Bool.eq_false_iff.mpr c43
       subst c43
       have H1 : (laws_FnLoad.j1 kj6 t478 t481 t482 t485 t486 true t475) = some r := by rw [if_neg (show ¬ (false = true) by decide)] at H;exact H
       clear H
       have H := H1
       clear H1
       have H' := aM_ H
       clear H
       have hcz59_0 : wc.cell? ⟨gb484,0,none⟩ = some (.slice Ao10 t475.length co10) := (blk_cell BK484.out 0).trans rfl
       have hfz59_0 := blk_frozen BK484.out 0
       go_wp2_with (first | ((with_reducible refine gate_callee (f := 27) rfl ?_);refine gL_ (some 69) Try.func27 #[.agg #[.slice Ao10 t475.length co10]] ?_;(with_reducible refine (spec_MemoryOk.calls kj6 _ _ t475 false _ ?side1 ?side2 A42.out).mono ?_);(case side1 => exact cS_ (Kd.V_reads' HO_485000.out).2.2);(case side2 => exact (Kd.V_reads' HO_485000.out).2.1);rintro e w60 ⟨rfl,hb⟩;refine ⟨_,rfl,?_⟩;have n0 := aM_ (bQ_ HO_4.out hb);have n1 := aM_ (bR_ HO_9.out hb);have n2 := aM_ (Kd.V_below (by (with_reducible repeat (first | apply Kd.V_alloc | apply Kd.V_drewN | apply Kd.V_drew));exact HO_485000.out) hb);have n3 := aM_ (nB_ BK484.out hb);have n4 := aM_ (sT_ HB.out hb);clear HO_4;clear HO_9;clear HO_485000;clear BK484;clear HB;have HO_4 := n0;have HO_9 := n1;have HO_485000 := n2;have BK484 := n3;have HB := n4;clear n0 n1 n2 n3 n4))
       go_meet
       case rel => exact ⟨_,(true),(by first | rfl | (simp;done) | (simp [*];done)),H',⟨by have := HJ6.out;first | omega | exact Nat.le_refl _⟩,⟨by (with_reducible repeat (first | apply qA_ | apply qN_ | apply qD_));exact HO_4.out⟩,⟨by (with_reducible repeat (first | apply rA_ | apply rN_ | apply rD_));exact HO_9.out⟩,⟨by (with_reducible repeat (first | apply Kd.V_alloc | apply Kd.V_drewN | apply Kd.V_drew));exact HO_485000.out⟩,⟨rW_ BK484.out⟩,⟨gW_ HB.out⟩⟩
     case rest =>
      clear HC41
      try clear c1
      try clear c2
      try clear p2
      try clear c4
      try clear c16
      try clear c16b0
      try clear c16b1
      try clear c18
      try clear c25
      try clear c26
      try clear c27
      try clear c28
      try clear c29
      try clear c40
      try clear c43
      try clear c45
      try clear c46
      try clear c46b0
      try clear hcz47_0 hfz47_0
      try clear hcz49_0 hfz49_0
      try clear hcz51_0 hfz51_0
      try clear hcz53_0 hfz53_0
      try clear hcz55_0 hfz55_0
      try clear hcz57_0 hfz57_0
      try clear hcz59_0 hfz59_0
      try clear p2
      obtain ⟨kq,x84_40,rfl,HA,HJ40,HO_4,HO_9,HO_485000,BK484,HB⟩ := hcut
      cases kq with
      | zero => exact absurd HA.out (by simp [laws_FnLoad.j1])
      | succ kj40 =>
       have H := HA.out
       clear HA
       simp only [laws_FnLoad.j1] at H
       by_cases c61 : x84_40 = true
       ·subst c61
        have H1 : (if t485 = 0 then ((laws_sameInts.f kj40 t486 t478).bind fun t500 => (some t500)) else (some false)) = some r := by rw [if_pos rfl] at H;exact H
        clear H
        have H := H1
        clear H1
        by_cases c62 : t485 = 0
        ·rw [if_pos c62] at H
         have c62b0 : (t485 == 0) = true := beq_iff_eq.mpr c62
         have c62b1 : (t485 != 0) = false := bne_eq_false_iff_eq.mpr c62
         clear c62
         replace H := Option.bind_eq_some_iff.mp H
         obtain ⟨t500,A630,H⟩ := H
         replace H : (some t500) = some r := H
         have A63 := aM_ A630
         clear A630
         obtain rfl := Option.some.inj H
         obtain ⟨Ao64,co64,eo64⟩ := Kd.R_slice HO_9.out
         subst eo64
         go_wp2_with (first | (go_at_call 25;(with_reducible refine (laws_sameInts.calls kj40 _ _ t486 _ _ t478 t500 _ ?side1 ?side2 ?side3 ?side4 A63.out).mono ?_);(case side1 => exact cS_ (Kd.R_reads' HO_9.out).2.2);(case side2 => exact (Kd.R_reads' HO_9.out).2.1);(case side3 => exact cS_ (Kd.Q_reads' HO_4.out).2.2);(case side4 => exact (Kd.Q_reads' HO_4.out).2.1);rintro e w' ⟨rfl,⟨nd,rfl⟩⟩))
         go_ret
         exact fI_ HB.out
        ·rw [if_neg c62] at H
         have c62b0 : (t485 == 0) = false := beq_eq_false_iff_ne.mpr c62
         have c62b1 : (t485 != 0) = true := bne_iff_ne.mpr c62
         obtain rfl := Option.some.inj H
         go_wp2
         go_ret
         exact fI_ HB.out
       ·replace c61 := Bool.eq_false_iff.mpr c61
        subst c61
        have H1 : (if 0 ≤ t481 then (if t481 < (t475.length : Int) then (if 0 ≤ (wrap64 (((rd_L4 t475 t481).length : Int) - 1)) then (if (wrap64 (((rd_L4 t475 t481).length : Int) - 1)) < ((rd_L4 t475 t481).length : Int) then (if t481 < (t478.length : Int) then (laws_FnLoad.l0 kj40 t478 t481 t482 t485 t486 ((rd_T43 (rd_L4 t475 t481) (wrap64 (((rd_L4 t475 t481).length : Int) - 1))).f0) false (rd t478 t481) t475) else (none)) else (none)) else (none)) else (none)) else (none)) = some r := by rw [if_neg (show ¬ (false = true) by decide)] at H;exact H
        clear H
        have H := H1
        clear H1
        by_cases c65 : 0 ≤ t481
        ·rw [if_pos c65] at H
         have c65b0 : decide (0 ≤ t481) = true := decide_eq_true c65
         clear c65
         by_cases c66 : t481 < (t475.length : Int)
         ·rw [if_pos c66] at H
          have c66b0 : decide (t481 < (t475.length : Int)) = true := decide_eq_true c66
          clear c66
          obtain ⟨ji67,hji67⟩ : ∃ j_ : Int,(wrap64 (((rd_L4 t475 t481).length : Int) - 1)) = j_ := ⟨_,rfl⟩
          replace H : (if 0 ≤ (ji67) then (if (ji67) < ((rd_L4 t475 t481).length : Int) then (if t481 < (t478.length : Int) then (laws_FnLoad.l0 kj40 t478 t481 t482 t485 t486 ((rd_T43 (rd_L4 t475 t481) (ji67)).f0) false (rd t478 t481) t475) else (none)) else (none)) else (none)) = some r := by first | (rw [hji67] at H;exact H) | (simp only [hji67] at H ⊢;exact H)
          have hji67w : (IntKind.i64.wrap (((rd_L4 t475 t481).length : Int) - 1)) = ji67 := (i64_w _).trans hji67
          by_cases c68 : 0 ≤ (ji67)
          ·rw [if_pos c68] at H
           have c68b0 : decide (0 ≤ (ji67)) = true := decide_eq_true c68
           clear c68
           by_cases c69 : (ji67) < ((rd_L4 t475 t481).length : Int)
           ·rw [if_pos c69] at H
            have c69b0 : decide ((ji67) < ((rd_L4 t475 t481).length : Int)) = true := decide_eq_true c69
            clear c69
            by_cases c70 : t481 < (t478.length : Int)
            ·rw [if_pos c70] at H
             have c70b0 : decide (t481 < (t478.length : Int)) = true := decide_eq_true c70
             clear c70
             have H' := aM_ H
             clear H
             try go_wp2
             have n0 := aM_ (Kd.Q_drew HO_4.out)
             have n1 := aM_ (Kd.R_drew HO_9.out)
             have n2 := aM_ (Kd.V_drew HO_485000.out)
             have n3 := aM_ (blk_drew BK484.out)
             have n4 := aM_ (below_drew1 HB.out)
             clear HO_4
             clear HO_9
             clear HO_485000
             clear BK484
             clear HB
             have HO_4 := n0
             have HO_9 := n1
             have HO_485000 := n2
             have BK484 := n3
             have HB := n4
             clear n0 n1 n2 n3 n4
             have p501 : 0 ≤ (t481 : Int) := of_decide_eq_true (by first | (with_reducible assumption) | assumption)
             have q501 : t481 < (t475.length : Int) := of_decide_eq_true (by first | (with_reducible assumption) | assumption)
             obtain ⟨ad501,A501_0,c501_0,e501,hx501_0,hl501_0,hi501_0⟩ := at_L4 (Kd.V_reads' HO_485000.out).2.2 t481 p501 q501
             cases e501
             obtain ⟨ce501,hce501,hMe501,hcc501⟩ := Kd.V_get HO_485000.out [] t481 p501 (by first | exact q501 | exact of_decide_eq_true (by first | (with_reducible assumption) | assumption) | (have e_ := (Kd.V_reads' HO_485000.out).1;omega))
             obtain ⟨ua501_0,uc501_0,rfl,ul501_0,ge501_0⟩ := Kd.FK_slice_open hMe501
             have hv501_0 := hcc501 0 _ rfl
             rw [Nat.add_zero,show ((Kd.slice 43 k43)).sz = 1 from rfl,Nat.mul_one] at hv501_0
             replace hv501_0 := Option.some.inj (hv501_0.symm.trans hx501_0)
             injection hv501_0 with hva_ hvn_ hvc_
             rw [hva_] at ge501_0
             rw [hvc_] at ul501_0
             have HL501_0 := aM_ (show Kd.V k43 43 _ w.heap.size _ _ (rd_L4 t475 t481) from Kd.V_mk ul501_0 ge501_0)
             clear hva_ hvn_ hvc_ ge501_0 ul501_0
             clear hcc501 hce501
             have HR501_0 := aM_ hi501_0
             have HC501_0 := aM_ hl501_0
             clear hi501_0 hl501_0
             replace p501 := eq_true p501
             replace q501 := eq_true q501
             have p502 : 0 ≤ (t481 : Int) := of_decide_eq_true (by first | (with_reducible assumption) | assumption)
             have q502 : t481 < (t475.length : Int) := of_decide_eq_true (by first | (with_reducible assumption) | assumption)
             obtain ⟨ad502,A502_0,c502_0,e502,hx502_0,hl502_0,hi502_0⟩ := at_L4 (Kd.V_reads' HO_485000.out).2.2 t481 p502 q502
             obtain rfl : ad501 = ad502 := (by injection e502)
             obtain ⟨ce502,hce502,hMe502,hcc502⟩ := Kd.V_get HO_485000.out [] t481 p502 (by first | exact q502 | exact of_decide_eq_true (by first | (with_reducible assumption) | assumption) | (have e_ := (Kd.V_reads' HO_485000.out).1;omega))
             obtain ⟨ua502_0,uc502_0,rfl,ul502_0,ge502_0⟩ := Kd.FK_slice_open hMe502
             have hv502_0 := hcc502 0 _ rfl
             rw [Nat.add_zero,show ((Kd.slice 43 k43)).sz = 1 from rfl,Nat.mul_one] at hv502_0
             replace hv502_0 := Option.some.inj (hv502_0.symm.trans hx502_0)
             injection hv502_0 with hva_ hvn_ hvc_
             rw [hva_] at ge502_0
             rw [hvc_] at ul502_0
             have HL502_0 := aM_ (show Kd.V k43 43 _ w.heap.size _ _ (rd_L4 t475 t481) from Kd.V_mk ul502_0 ge502_0)
             clear hva_ hvn_ hvc_ ge502_0 ul502_0
             clear hcc502 hce502
             have HR502_0 := aM_ hi502_0
             have HC502_0 := aM_ hl502_0
             clear hi502_0 hl502_0
             replace p502 := eq_true p502
             replace q502 := eq_true q502
             have ea_ := Option.some.inj (hx501_0.symm.trans hx502_0)
             injection ea_ with ea_ en_ ec_
             subst ea_
             subst ec_
             clear en_
             have p503 : 0 ≤ ((ji67) : Int) := of_decide_eq_true (by first | (with_reducible assumption) | assumption)
             have q503 : (ji67) < ((rd_L4 t475 t481).length : Int) := of_decide_eq_true (by first | (with_reducible assumption) | assumption)
             obtain ⟨ad503,A503_1,c503_1,e503,hx503_0,hx503_1,hl503_1,hi503_1⟩ := at_T43 (by repeat (first | (with_reducible exact HR501_0.out) | (with_reducible refine Kd.C_alloc ?_ _) | (with_reducible refine Kd.C_drewN ?_ _) | (with_reducible refine Kd.C_drew ?_) | exact HR501_0.out)) (ji67) p503 q503
             cases e503
             obtain ⟨ce503,hce503,hMe503,hcc503⟩ := Kd.V_get HL501_0.out z43 (ji67) p503 (by first | exact q503 | exact of_decide_eq_true (by first | (with_reducible assumption) | assumption) | (have e_ := (Kd.V_reads' HL501_0.out).1;omega))
             obtain ⟨ua503_1,uc503_1,rfl,ul503_1,ge503_1⟩ := k43_openF hMe503
             have hv503_1 := hcc503 1 _ rfl
             rw [add_field _ _ 1 (by omega)] at hv503_1
             replace hv503_1 := Option.some.inj (hv503_1.symm.trans hx503_1)
             injection hv503_1 with hva_ hvn_ hvc_
             rw [hva_] at ge503_1
             rw [hvc_] at ul503_1
             have HL503_1 := aM_ (show Kd.V (Kd.int .i64) 3 _ w.heap.size _ _ ((rd_T43 (rd_L4 t475 t481) (ji67)).f1) from Kd.V_mk ul503_1 ge503_1)
             clear hva_ hvn_ hvc_ ge503_1 ul503_1
             clear hcc503 hce503
             have HR503_1 := aM_ hi503_1
             have HC503_1 := aM_ hl503_1
             clear hi503_1 hl503_1
             replace p503 := eq_true p503
             replace q503 := eq_true q503
             refine start_ (n := 16) (S := fun w' => w'.cell? ⟨gb484,0,none⟩ = some (.slice (some ad501) t475.length co10) ∧ w'.cell? (ad501.add (t481).toNat) = some (.slice (some ad503) (rd_L4 t475 t481).length c501_0) ∧ w'.cell? (ad501.add (t481).toNat) = some (.slice (some ad503) (rd_L4 t475 t481).length c501_0) ∧ w'.cell? (ad503.add (((ji67)).toNat * 2)) = some (.int .i64 ((rd_T43 (rd_L4 t475 t481) (ji67)).f0)) ∧ w'.cell? ⟨(ad503.add (((ji67)).toNat * 2)).block,(ad503.add (((ji67)).toNat * 2)).off + 1,none⟩ = some (.slice A503_1 ((rd_T43 (rd_L4 t475 t481) (ji67)).f1).length c503_1)) (ds := []) (mk_ 16 0) (by kernel_rfl) rfl rfl ⟨(blk_cell BK484.out 0).trans rfl,hx501_0,hx502_0,hx503_0,hx503_1⟩ (fun hHeld => ?_);refine with_tabW laws_FnLoad.tab10 laws_FnLoad.bits10 (fun HT_ HW_ => ?_)
             generalize wc.drew = w71 at HO_4 HO_9 HO_485000 BK484 HB HL501_0 HL502_0 HL503_1 HR501_0 HR502_0 HR503_1 hx501_0 hx502_0 hx503_0 hx503_1 hHeld ⊢
             refine pU_ 0 (some 92) (mk_ 16 1) ?_
             refine pU_ 2 (some 94) (mk_ 16 5) ?_
             refine pU_ 5 (some 97) (mk_ 16 37) ?_
             refine pU_ 7 (some 99) (mk_ 16 165) ?_
             refine tK5_ 1 (some 93) (mk_ 16 167) ?_
             refine pU_ 3 (some 95) (mk_ 16 175) ?_
             refine tK5_ 4 (some 96) (mk_ 16 191) ?_
             refine tK5_ 6 (some 98) (mk_ 16 255) ?_
             refine pU_ 8 (some 100) (mk_ 16 511) ?_
             refine tK5_ 9 (some 101) (mk_ 16 1023) ?_
             refine pU_ 10 (some 102) (mk_ 16 2047) ?_
             refine pU_ 11 (some 103) (mk_ 16 4095) ?_
             refine pU_ 12 (some 104) (mk_ 16 8191) ?_
             refine pU_ 13 (some 105) (mk_ 16 16383) ?_
             refine tK5_ 14 (some 106) (mk_ 16 32767) ?_
             refine pU_ 15 (some 12) (mk_ 16 65535) ?_
             refine done_ (done_of HT_.out (by kernel_rfl)) ?_
             have p504 : 0 ≤ (t481 : Int) := of_decide_eq_true (by first | (with_reducible assumption) | assumption)
             have q504 : t481 < (t478.length : Int) := of_decide_eq_true (by first | (with_reducible assumption) | assumption)
             obtain ⟨ad504,e504,hx504_0⟩ := Kd.at_int (Kd.Q_reads' HO_4.out).2.2 t481 p504 q504
             cases e504
             replace p504 := eq_true p504
             replace q504 := eq_true q504
             try go_wp2
             go_loopg [13,14] kj40 (fun kq v13 v14 w' => ∃ (x13_3 : Bool) (x14_3 : Int),v13 = .bool x13_3 ∧ v14 = .int .i64 x14_3 ∧ Aside0 (laws_FnLoad.l0 kq t478 t481 t482 t485 t486 ((rd_T43 (rd_L4 t475 t481) (ji67)).f0) x13_3 x14_3 t475 = some r) ∧ Aside0 (kq ≤ kj40) ∧ Aside0 (Kd.Q (Kd.int .i64) 3 w' w.heap.size (fun k_ => some k_ ≠ (v487 : Value).ownBlock) (.slice (some ad504) t478.length co12) t478) ∧ Aside0 (Kd.R (Kd.int .i64) 3 w' w.heap.size (fun k_ => some k_ ≠ ((.slice (some ad504) t478.length co12) : Value).ownBlock) v487 t486) ∧ Aside0 (Kd.V (Kd.slice 43 k43) 44 w' w.heap.size (fun k_ => some k_ ≠ ((.slice (some ad504) t478.length co12) : Value).ownBlock ∧ some k_ ≠ (v487 : Value).ownBlock ∧ k_ ≠ gb484) (.slice (some ad501) t475.length co10) t475) ∧ Aside0 (w'.heap[gb484]? = some (.cells #[(.slice (some ad501) t475.length co10)] 24 (0,0))) ∧ Aside0 (Kd.C k43 w' (some ad503) (rd_L4 t475 t481).length (rd_L4 t475 t481)) ∧ Aside0 (Kd.C k43 w' (some ad503) (rd_L4 t475 t481).length (rd_L4 t475 t481)) ∧ Aside0 (Kd.C (Kd.int .i64) w' A503_1 ((rd_T43 (rd_L4 t475 t481) (ji67)).f1).length ((rd_T43 (rd_L4 t475 t481) (ji67)).f1)) ∧ Aside0 (Below w.heap.size w w'))
             case atStart => exact ⟨(false),(rd t478 t481),(by first | rfl | (simp;done) | (simp [*];done)),(by first | rfl | (simp;done) | (simp [*];done)),H',⟨Nat.le_refl _⟩,⟨by (with_reducible repeat (first | apply qA_ | apply qN_ | apply qD_));exact HO_4.out⟩,⟨by (with_reducible repeat (first | apply rA_ | apply rN_ | apply rD_));exact HO_9.out⟩,⟨by (with_reducible repeat (first | apply Kd.V_alloc | apply Kd.V_drewN | apply Kd.V_drew));exact HO_485000.out⟩,⟨rW_ BK484.out⟩,⟨by repeat (first | (with_reducible exact HR501_0.out) | (with_reducible refine Kd.C_alloc ?_ _) | (with_reducible refine Kd.C_drewN ?_ _) | (with_reducible refine Kd.C_drew ?_) | exact HR501_0.out)⟩,⟨by repeat (first | (with_reducible exact HR502_0.out) | (with_reducible refine Kd.C_alloc ?_ _) | (with_reducible refine Kd.C_drewN ?_ _) | (with_reducible refine Kd.C_drew ?_) | exact HR502_0.out)⟩,⟨by repeat (first | (with_reducible exact HR503_1.out) | (with_reducible refine Kd.C_alloc ?_ _) | (with_reducible refine Kd.C_drewN ?_ _) | (with_reducible refine Kd.C_drew ?_) | exact HR503_1.out)⟩,⟨gW_ HB.out⟩⟩
             case round =>
              clear H'
              try clear c1
              try clear c2
              try clear p2
              try clear c4
              try clear c5
              try clear p5
              try clear q5
              try clear hx5
              try clear c6
              try clear p6
              try clear c7
              try clear c16
              try clear c16b0
              try clear c16b1
              try clear c18
              try clear c25
              try clear c26
              try clear c27
              try clear c28
              try clear c29
              try clear c40
              try clear c43
              try clear c45
              try clear c46
              try clear c46b0
              try clear c50
              try clear p50
              try clear q50
              try clear hx50
              try clear c61
              try clear c62
              try clear c62b0
              try clear c62b1
              try clear p64
              try clear c65
              try clear c65b0
              try clear c66
              try clear c66b0
              try clear c68
              try clear c68b0
              try clear c69
              try clear c69b0
              try clear c70
              try clear c70b0
              try clear hcz47_0 hfz47_0
              try clear hcz49_0 hfz49_0
              try clear hcz51_0 hfz51_0
              try clear hcz53_0 hfz53_0
              try clear hcz55_0 hfz55_0
              try clear hcz57_0 hfz57_0
              try clear hcz59_0 hfz59_0
              try clear hx501_0
              try clear hx502_0
              try clear hx503_0
              try clear hx503_1
              try clear hx504_0
              try clear p2
              try clear p501
              try clear p502
              try clear p503
              try clear p504
              try clear q501
              try clear q502
              try clear q503
              try clear q504
              obtain ⟨x13_3,x14_3,rfl,rfl,HA,HK3,HO_4,HO_9,HO_485000,BK484,HR501_0,HR502_0,HR503_1,HB⟩ := hrel
              cases gk with
              | zero => exact absurd HA.out (by simp [laws_FnLoad.l0])
              | succ k3 =>
               have H := HA.out
               clear HA
               simp only [laws_FnLoad.l0] at H
               by_cases c72 : 0 ≤ t481
               ·rw [if_pos c72] at H
                have c72b0 : decide (0 ≤ t481) = true := decide_eq_true c72
                clear c72
                by_cases c73 : t481 < (t475.length : Int)
                ·rw [if_pos c73] at H
                 have c73b0 : decide (t481 < (t475.length : Int)) = true := decide_eq_true c73
                 clear c73
                 by_cases c74 : x14_3 < ((rd_L4 t475 t481).length : Int)
                 ·rw [if_pos c74] at H
                  have c74b0 : decide (x14_3 < ((rd_L4 t475 t481).length : Int)) = true := decide_eq_true c74
                  clear c74
                  by_cases c75 : x13_3 = true
                  ·subst c75
                   have H1 : (laws_FnLoad.l0 k3 t478 t481 t482 t485 t486 ((rd_T43 (rd_L4 t475 t481) (ji67)).f0) true (wrap64 (x14_3 + 1)) t475) = some r := by rw [if_pos rfl] at H;exact H
                   clear H
                   have H := H1
                   clear H1
                   have H' := aM_ H
                   clear H
                   have hcz76_0 : wr.cell? ⟨gb484,0,none⟩ = some (.slice (some ad501) t475.length co10) := (blk_cell BK484.out 0).trans rfl
                   have hfz76_0 := blk_frozen BK484.out 0
                   have p505 : 0 ≤ (t481 : Int) := of_decide_eq_true (by first | (with_reducible assumption) | assumption)
                   have q505 : t481 < (t475.length : Int) := of_decide_eq_true (by first | (with_reducible assumption) | assumption)
                   obtain ⟨ad505,A505_0,c505_0,e505,hx505_0,hl505_0,hi505_0⟩ := at_L4 (Kd.V_reads' HO_485000.out).2.2 t481 p505 q505
                   obtain rfl : ad501 = ad505 := (by injection e505)
                   obtain ⟨ce505,hce505,hMe505,hcc505⟩ := Kd.V_get HO_485000.out [] t481 p505 (by first | exact q505 | exact of_decide_eq_true (by first | (with_reducible assumption) | assumption) | (have e_ := (Kd.V_reads' HO_485000.out).1;omega))
                   obtain ⟨ua505_0,uc505_0,rfl,ul505_0,ge505_0⟩ := Kd.FK_slice_open hMe505
                   have hv505_0 := hcc505 0 _ rfl
                   rw [Nat.add_zero,show ((Kd.slice 43 k43)).sz = 1 from rfl,Nat.mul_one] at hv505_0
                   replace hv505_0 := Option.some.inj (hv505_0.symm.trans hx505_0)
                   injection hv505_0 with hva_ hvn_ hvc_
                   rw [hva_] at ge505_0
                   rw [hvc_] at ul505_0
                   have HL505_0 := aM_ (show Kd.V k43 43 _ w.heap.size _ _ (rd_L4 t475 t481) from Kd.V_mk ul505_0 ge505_0)
                   clear hva_ hvn_ hvc_ ge505_0 ul505_0
                   clear hcc505 hce505
                   have HR505_0 := aM_ hi505_0
                   have HC505_0 := aM_ hl505_0
                   clear hi505_0 hl505_0
                   replace p505 := eq_true p505
                   replace q505 := eq_true q505
                   go_wp2
                   go_roundg k3
                   case measure => have := HJ6.out;have := HJ40.out;have := HK3.out;omega
                   case rel => exact ⟨(true),(wrap64 (x14_3 + 1)),(by first | rfl | (simp;done) | (simp [*];done)),(by first | rfl | (simp;done) | (simp [*];done)),H',⟨by have := HJ6.out;have := HJ40.out;have := HK3.out;omega⟩,⟨by (with_reducible repeat (first | apply qA_ | apply qN_ | apply qD_));exact HO_4.out⟩,⟨by (with_reducible repeat (first | apply rA_ | apply rN_ | apply rD_));exact HO_9.out⟩,⟨by (with_reducible repeat (first | apply Kd.V_alloc | apply Kd.V_drewN | apply Kd.V_drew));exact HO_485000.out⟩,⟨rW_ BK484.out⟩,⟨by repeat (first | (with_reducible exact HR501_0.out) | (with_reducible refine Kd.C_alloc ?_ _) | (with_reducible refine Kd.C_drewN ?_ _) | (with_reducible refine Kd.C_drew ?_) | exact HR501_0.out)⟩,⟨by repeat (first | (with_reducible exact HR502_0.out) | (with_reducible refine Kd.C_alloc ?_ _) | (with_reducible refine Kd.C_drewN ?_ _) | (with_reducible refine Kd.C_drew ?_) | exact HR502_0.out)⟩,⟨by repeat (first | (with_reducible exact HR503_1.out) | (with_reducible refine Kd.C_alloc ?_ _) | (with_reducible refine Kd.C_drewN ?_ _) | (with_reducible refine Kd.C_drew ?_) | exact HR503_1.out)⟩,⟨gW_ HB.out⟩⟩
                  ·replace c75 := Bool.eq_false_iff.mpr c75
                   subst c75
                   have H1 : (if 0 ≤ x14_3 then (laws_FnLoad.l0 k3 t478 t481 t482 t485 t486 ((rd_T43 (rd_L4 t475 t481) (ji67)).f0) (((rd_T43 (rd_L4 t475 t481) x14_3).f0) == t485) (wrap64 (x14_3 + 1)) t475) else (none)) = some r := by rw [if_neg (show ¬ (false = true) by decide)] at H;exact H
                   clear H
                   have H := H1
                   clear H1
                   by_cases c77 : 0 ≤ x14_3
                   ·rw [if_pos c77] at H
                    have c77b0 : decide (0 ≤ x14_3) = true := decide_eq_true c77
                    clear c77
                    have H' := aM_ H
                    clear H
                    have hcz78_0 : wr.cell? ⟨gb484,0,none⟩ = some (.slice (some ad501) t475.length co10) := (blk_cell BK484.out 0).trans rfl
                    have hfz78_0 := blk_frozen BK484.out 0
                    have p505 : 0 ≤ (t481 : Int) := of_decide_eq_true (by first | (with_reducible assumption) | assumption)
                    have q505 : t481 < (t475.length : Int) := of_decide_eq_true (by first | (with_reducible assumption) | assumption)
                    obtain ⟨ad505,A505_0,c505_0,e505,hx505_0,hl505_0,hi505_0⟩ := at_L4 (Kd.V_reads' HO_485000.out).2.2 t481 p505 q505
                    obtain rfl : ad501 = ad505 := (by injection e505)
                    obtain ⟨ce505,hce505,hMe505,hcc505⟩ := Kd.V_get HO_485000.out [] t481 p505 (by first | exact q505 | exact of_decide_eq_true (by first | (with_reducible assumption) | assumption) | (have e_ := (Kd.V_reads' HO_485000.out).1;omega))
                    obtain ⟨ua505_0,uc505_0,rfl,ul505_0,ge505_0⟩ := Kd.FK_slice_open hMe505
                    have hv505_0 := hcc505 0 _ rfl
                    rw [Nat.add_zero,show ((Kd.slice 43 k43)).sz = 1 from rfl,Nat.mul_one] at hv505_0
                    replace hv505_0 := Option.some.inj (hv505_0.symm.trans hx505_0)
                    injection hv505_0 with hva_ hvn_ hvc_
                    rw [hva_] at ge505_0
                    rw [hvc_] at ul505_0
                    have HL505_0 := aM_ (show Kd.V k43 43 _ w.heap.size _ _ (rd_L4 t475 t481) from Kd.V_mk ul505_0 ge505_0)
                    clear hva_ hvn_ hvc_ ge505_0 ul505_0
                    clear hcc505 hce505
                    have HR505_0 := aM_ hi505_0
                    have HC505_0 := aM_ hl505_0
                    clear hi505_0 hl505_0
                    replace p505 := eq_true p505
                    replace q505 := eq_true q505
                    have p506 : 0 ≤ (t481 : Int) := of_decide_eq_true (by first | (with_reducible assumption) | assumption)
                    have q506 : t481 < (t475.length : Int) := of_decide_eq_true (by first | (with_reducible assumption) | assumption)
                    obtain ⟨ad506,A506_0,c506_0,e506,hx506_0,hl506_0,hi506_0⟩ := at_L4 (Kd.V_reads' HO_485000.out).2.2 t481 p506 q506
                    obtain rfl : ad501 = ad506 := (by injection e506)
                    obtain ⟨ce506,hce506,hMe506,hcc506⟩ := Kd.V_get HO_485000.out [] t481 p506 (by first | exact q506 | exact of_decide_eq_true (by first | (with_reducible assumption) | assumption) | (have e_ := (Kd.V_reads' HO_485000.out).1;omega))
                    obtain ⟨ua506_0,uc506_0,rfl,ul506_0,ge506_0⟩ := Kd.FK_slice_open hMe506
                    have hv506_0 := hcc506 0 _ rfl
                    rw [Nat.add_zero,show ((Kd.slice 43 k43)).sz = 1 from rfl,Nat.mul_one] at hv506_0
                    replace hv506_0 := Option.some.inj (hv506_0.symm.trans hx506_0)
                    injection hv506_0 with hva_ hvn_ hvc_
                    rw [hva_] at ge506_0
                    rw [hvc_] at ul506_0
                    have HL506_0 := aM_ (show Kd.V k43 43 _ w.heap.size _ _ (rd_L4 t475 t481) from Kd.V_mk ul506_0 ge506_0)
                    clear hva_ hvn_ hvc_ ge506_0 ul506_0
                    clear hcc506 hce506
                    have HR506_0 := aM_ hi506_0
                    have HC506_0 := aM_ hl506_0
                    clear hi506_0 hl506_0
                    replace p506 := eq_true p506
                    replace q506 := eq_true q506
                    have ea_ := Option.some.inj (hx505_0.symm.trans hx506_0)
                    injection ea_ with ea_ en_ ec_
                    subst ea_
                    subst ec_
                    clear en_
                    have p507 : 0 ≤ (x14_3 : Int) := of_decide_eq_true (by first | (with_reducible assumption) | assumption)
                    have q507 : x14_3 < ((rd_L4 t475 t481).length : Int) := of_decide_eq_true (by first | (with_reducible assumption) | assumption)
                    obtain ⟨ad507,A507_1,c507_1,e507,hx507_0,hx507_1,hl507_1,hi507_1⟩ := at_T43 (by repeat (first | (with_reducible exact HR506_0.out) | (with_reducible refine Kd.C_alloc ?_ _) | (with_reducible refine Kd.C_drewN ?_ _) | (with_reducible refine Kd.C_drew ?_) | exact HR506_0.out)) x14_3 p507 q507
                    cases e507
                    obtain ⟨ce507,hce507,hMe507,hcc507⟩ := Kd.V_get HL506_0.out z43 x14_3 p507 (by first | exact q507 | exact of_decide_eq_true (by first | (with_reducible assumption) | assumption) | (have e_ := (Kd.V_reads' HL506_0.out).1;omega))
                    obtain ⟨ua507_1,uc507_1,rfl,ul507_1,ge507_1⟩ := k43_openF hMe507
                    have hv507_1 := hcc507 1 _ rfl
                    rw [add_field _ _ 1 (by omega)] at hv507_1
                    replace hv507_1 := Option.some.inj (hv507_1.symm.trans hx507_1)
                    injection hv507_1 with hva_ hvn_ hvc_
                    rw [hva_] at ge507_1
                    rw [hvc_] at ul507_1
                    have HL507_1 := aM_ (show Kd.V (Kd.int .i64) 3 _ w.heap.size _ _ ((rd_T43 (rd_L4 t475 t481) x14_3).f1) from Kd.V_mk ul507_1 ge507_1)
                    clear hva_ hvn_ hvc_ ge507_1 ul507_1
                    clear hcc507 hce507
                    have HR507_1 := aM_ hi507_1
                    have HC507_1 := aM_ hl507_1
                    clear hi507_1 hl507_1
                    replace p507 := eq_true p507
                    replace q507 := eq_true q507
                    go_wp2
                    go_roundg k3
                    case measure => have := HJ6.out;have := HJ40.out;have := HK3.out;omega
                    case rel => exact ⟨((((rd_T43 (rd_L4 t475 t481) x14_3).f0) == t485)),(wrap64 (x14_3 + 1)),(by first | rfl | (simp;done) | (simp [*];done)),(by first | rfl | (simp;done) | (simp [*];done)),H',⟨by have := HJ6.out;have := HJ40.out;have := HK3.out;omega⟩,⟨by (with_reducible repeat (first | apply qA_ | apply qN_ | apply qD_));exact HO_4.out⟩,⟨by (with_reducible repeat (first | apply rA_ | apply rN_ | apply rD_));exact HO_9.out⟩,⟨by (with_reducible repeat (first | apply Kd.V_alloc | apply Kd.V_drewN | apply Kd.V_drew));exact HO_485000.out⟩,⟨rW_ BK484.out⟩,⟨by repeat (first | (with_reducible exact HR501_0.out) | (with_reducible refine Kd.C_alloc ?_ _) | (with_reducible refine Kd.C_drewN ?_ _) | (with_reducible refine Kd.C_drew ?_) | exact HR501_0.out)⟩,⟨by repeat (first | (with_reducible exact HR502_0.out) | (with_reducible refine Kd.C_alloc ?_ _) | (with_reducible refine Kd.C_drewN ?_ _) | (with_reducible refine Kd.C_drew ?_) | exact HR502_0.out)⟩,⟨by repeat (first | (with_reducible exact HR503_1.out) | (with_reducible refine Kd.C_alloc ?_ _) | (with_reducible refine Kd.C_drewN ?_ _) | (with_reducible refine Kd.C_drew ?_) | exact HR503_1.out)⟩,⟨gW_ HB.out⟩⟩
                   ·rw [if_neg c77] at H
                    exact absurd H (by simp)
                 ·rw [if_neg c74] at H
                  have c74b0 : decide (x14_3 < ((rd_L4 t475 t481).length : Int)) = false := decide_eq_false c74
                  clear c74
                  by_cases c79 : x13_3 = true
                  ·subst c79
                   have H1 : ((impl_Knows.f k3 t486 t478).bind fun t508 => (if t508 = true then ((impl_ViewOk.f k3 t475 t486).bind fun t509 => (if t509 = true then (if t482 > 0 then (some true) else (some (t485 == ((rd_T43 (rd_L4 t475 t481) (ji67)).f0)))) else (some false))) else (some false))) = some r := by rw [if_pos rfl] at H;exact H
                   clear H
                   have H := H1
                   clear H1
                   replace H := Option.bind_eq_some_iff.mp H
                   obtain ⟨t508,A800,H⟩ := H
                   replace H : (if t508 = true then ((impl_ViewOk.f k3 t475 t486).bind fun t509 => (if t509 = true then (if t482 > 0 then (some true) else (some (t485 == ((rd_T43 (rd_L4 t475 t481) (ji67)).f0)))) else (some false))) else (some false)) = some r := H
                   have A80 := aM_ A800
                   clear A800
                   by_cases c81 : t508 = true
                   ·subst c81
                    have H1 : ((impl_ViewOk.f k3 t475 t486).bind fun t509 => (if t509 = true then (if t482 > 0 then (some true) else (some (t485 == ((rd_T43 (rd_L4 t475 t481) (ji67)).f0)))) else (some false))) = some r := by rw [if_pos rfl] at H;exact H
                    clear H
                    have H := H1
                    clear H1
                    replace H := Option.bind_eq_some_iff.mp H
                    obtain ⟨t509,A820,H⟩ := H
                    replace H : (if t509 = true then (if t482 > 0 then (some true) else (some (t485 == ((rd_T43 (rd_L4 t475 t481) (ji67)).f0)))) else (some false)) = some r := H
                    have A82 := aM_ A820
                    clear A820
                    by_cases c83 : t509 = true
                    ·subst c83
                     have H1 : (if t482 > 0 then (some true) else (some (t485 == ((rd_T43 (rd_L4 t475 t481) (ji67)).f0)))) = some r := by rw [if_pos rfl] at H;exact H
                     clear H
                     have H := H1
                     clear H1
                     by_cases c84 : t482 > 0
                     ·rw [if_pos c84] at H
                      have c84b0 : decide (0 < t482) = true := decide_eq_true c84
                      clear c84
                      obtain rfl := Option.some.inj H
                      have hcz85_0 : wr.cell? ⟨gb484,0,none⟩ = some (.slice (some ad501) t475.length co10) := (blk_cell BK484.out 0).trans rfl
                      have hfz85_0 := blk_frozen BK484.out 0
                      have p505 : 0 ≤ (t481 : Int) := of_decide_eq_true (by first | (with_reducible assumption) | assumption)
                      have q505 : t481 < (t475.length : Int) := of_decide_eq_true (by first | (with_reducible assumption) | assumption)
                      obtain ⟨ad505,A505_0,c505_0,e505,hx505_0,hl505_0,hi505_0⟩ := at_L4 (Kd.V_reads' HO_485000.out).2.2 t481 p505 q505
                      obtain rfl : ad501 = ad505 := (by injection e505)
                      obtain ⟨ce505,hce505,hMe505,hcc505⟩ := Kd.V_get HO_485000.out [] t481 p505 (by first | exact q505 | exact of_decide_eq_true (by first | (with_reducible assumption) | assumption) | (have e_ := (Kd.V_reads' HO_485000.out).1;omega))
                      obtain ⟨ua505_0,uc505_0,rfl,ul505_0,ge505_0⟩ := Kd.FK_slice_open hMe505
                      have hv505_0 := hcc505 0 _ rfl
                      rw [Nat.add_zero,show ((Kd.slice 43 k43)).sz = 1 from rfl,Nat.mul_one] at hv505_0
                      replace hv505_0 := Option.some.inj (hv505_0.symm.trans hx505_0)
                      injection hv505_0 with hva_ hvn_ hvc_
                      rw [hva_] at ge505_0
                      rw [hvc_] at ul505_0
                      have HL505_0 := aM_ (show Kd.V k43 43 _ w.heap.size _ _ (rd_L4 t475 t481) from Kd.V_mk ul505_0 ge505_0)
                      clear hva_ hvn_ hvc_ ge505_0 ul505_0
                      clear hcc505 hce505
                      have HR505_0 := aM_ hi505_0
                      have HC505_0 := aM_ hl505_0
                      clear hi505_0 hl505_0
                      replace p505 := eq_true p505
                      replace q505 := eq_true q505
                      obtain ⟨Ao86,co86,eo86⟩ := Kd.R_slice HO_9.out
                      subst eo86
                      go_wp2_with (first | (go_at_call 23;(with_reducible refine (impl_Knows.calls k3 _ _ t486 _ _ t478 true _ ?side1 ?side2 ?side3 ?side4 A80.out).mono ?_);(case side1 => exact cS_ (Kd.R_reads' HO_9.out).2.2);(case side2 => exact (Kd.R_reads' HO_9.out).2.1);(case side3 => exact cS_ (Kd.Q_reads' HO_4.out).2.2);(case side4 => exact (Kd.Q_reads' HO_4.out).2.1);rintro e w' ⟨rfl,⟨nd,rfl⟩⟩) | (go_at_call 28;(with_reducible refine (impl_ViewOk.calls k3 _ _ t475 _ _ t486 true _ ?side1 ?side2 ?side3 ?side4 A82.out).mono ?_);(case side1 => exact cS_ (Kd.V_reads' HO_485000.out).2.2);(case side2 => exact (Kd.V_reads' HO_485000.out).2.1);(case side3 => exact cS_ (Kd.R_reads' HO_9.out).2.2);(case side4 => exact (Kd.R_reads' HO_9.out).2.1);rintro e w87 ⟨rfl,hb⟩;have n0 := aM_ (bQ_ HO_4.out hb);have n1 := aM_ (bR_ HO_9.out hb);have n2 := aM_ (Kd.V_below (by (with_reducible repeat (first | apply Kd.V_alloc | apply Kd.V_drewN | apply Kd.V_drew));exact HO_485000.out) hb);have n3 := aM_ (Kd.V_below (by (with_reducible repeat (first | apply Kd.V_alloc | apply Kd.V_drewN | apply Kd.V_drew));exact HL505_0.out) hb);have n4 := aM_ (nB_ BK484.out hb);have n5 := aM_ trivial;have n6 := aM_ trivial;have n7 := aM_ trivial;have n8 := aM_ trivial;have n9 := aM_ (sT_ HB.out hb);clear HO_4;clear HO_9;clear HO_485000;clear HL505_0;clear BK484;clear HR501_0;clear HR502_0;clear HR503_1;clear HR505_0;clear HB;have HO_4 := n0;have HO_9 := n1;have HO_485000 := n2;have HL505_0 := n3;have BK484 := n4;have HR501_0 := n5;have HR502_0 := n6;have HR503_1 := n7;have HR505_0 := n8;have HB := n9;clear n0 n1 n2 n3 n4 n5 n6 n7 n8 n9))
                      go_ret
                      exact ⟨by first | rfl | (simp [errW_none,errW_some] <;> rfl) | (simp only [← hji67];first | rfl | (simp [errW_none,errW_some] <;> rfl)) | (simp [*,errW_none,errW_some] <;> rfl),gB_ HB.out⟩
                     ·rw [if_neg c84] at H
                      have c84b0 : decide (0 < t482) = false := decide_eq_false c84
                      clear c84
                      obtain rfl := Option.some.inj H
                      have hcz88_0 : wr.cell? ⟨gb484,0,none⟩ = some (.slice (some ad501) t475.length co10) := (blk_cell BK484.out 0).trans rfl
                      have hfz88_0 := blk_frozen BK484.out 0
                      have p505 : 0 ≤ (t481 : Int) := of_decide_eq_true (by first | (with_reducible assumption) | assumption)
                      have q505 : t481 < (t475.length : Int) := of_decide_eq_true (by first | (with_reducible assumption) | assumption)
                      obtain ⟨ad505,A505_0,c505_0,e505,hx505_0,hl505_0,hi505_0⟩ := at_L4 (Kd.V_reads' HO_485000.out).2.2 t481 p505 q505
                      obtain rfl : ad501 = ad505 := (by injection e505)
                      obtain ⟨ce505,hce505,hMe505,hcc505⟩ := Kd.V_get HO_485000.out [] t481 p505 (by first | exact q505 | exact of_decide_eq_true (by first | (with_reducible assumption) | assumption) | (have e_ := (Kd.V_reads' HO_485000.out).1;omega))
                      obtain ⟨ua505_0,uc505_0,rfl,ul505_0,ge505_0⟩ := Kd.FK_slice_open hMe505
                      have hv505_0 := hcc505 0 _ rfl
                      rw [Nat.add_zero,show ((Kd.slice 43 k43)).sz = 1 from rfl,Nat.mul_one] at hv505_0
                      replace hv505_0 := Option.some.inj (hv505_0.symm.trans hx505_0)
                      injection hv505_0 with hva_ hvn_ hvc_
                      rw [hva_] at ge505_0
                      rw [hvc_] at ul505_0
                      have HL505_0 := aM_ (show Kd.V k43 43 _ w.heap.size _ _ (rd_L4 t475 t481) from Kd.V_mk ul505_0 ge505_0)
                      clear hva_ hvn_ hvc_ ge505_0 ul505_0
                      clear hcc505 hce505
                      have HR505_0 := aM_ hi505_0
                      have HC505_0 := aM_ hl505_0
                      clear hi505_0 hl505_0
                      replace p505 := eq_true p505
                      replace q505 := eq_true q505
                      obtain ⟨Ao89,co89,eo89⟩ := Kd.R_slice HO_9.out
                      subst eo89
                      go_wp2_with (first | (go_at_call 23;(with_reducible refine (impl_Knows.calls k3 _ _ t486 _ _ t478 true _ ?side1 ?side2 ?side3 ?side4 A80.out).mono ?_);(case side1 => exact cS_ (Kd.R_reads' HO_9.out).2.2);(case side2 => exact (Kd.R_reads' HO_9.out).2.1);(case side3 => exact cS_ (Kd.Q_reads' HO_4.out).2.2);(case side4 => exact (Kd.Q_reads' HO_4.out).2.1);rintro e w' ⟨rfl,⟨nd,rfl⟩⟩) | (go_at_call 28;(with_reducible refine (impl_ViewOk.calls k3 _ _ t475 _ _ t486 true _ ?side1 ?side2 ?side3 ?side4 A82.out).mono ?_);(case side1 => exact cS_ (Kd.V_reads' HO_485000.out).2.2);(case side2 => exact (Kd.V_reads' HO_485000.out).2.1);(case side3 => exact cS_ (Kd.R_reads' HO_9.out).2.2);(case side4 => exact (Kd.R_reads' HO_9.out).2.1);rintro e w90 ⟨rfl,hb⟩;have n0 := aM_ (bQ_ HO_4.out hb);have n1 := aM_ (bR_ HO_9.out hb);have n2 := aM_ (Kd.V_below (by (with_reducible repeat (first | apply Kd.V_alloc | apply Kd.V_drewN | apply Kd.V_drew));exact HO_485000.out) hb);have n3 := aM_ (Kd.V_below (by (with_reducible repeat (first | apply Kd.V_alloc | apply Kd.V_drewN | apply Kd.V_drew));exact HL505_0.out) hb);have n4 := aM_ (nB_ BK484.out hb);have n5 := aM_ trivial;have n6 := aM_ trivial;have n7 := aM_ trivial;have n8 := aM_ trivial;have n9 := aM_ (sT_ HB.out hb);clear HO_4;clear HO_9;clear HO_485000;clear HL505_0;clear BK484;clear HR501_0;clear HR502_0;clear HR503_1;clear HR505_0;clear HB;have HO_4 := n0;have HO_9 := n1;have HO_485000 := n2;have HL505_0 := n3;have BK484 := n4;have HR501_0 := n5;have HR502_0 := n6;have HR503_1 := n7;have HR505_0 := n8;have HB := n9;clear n0 n1 n2 n3 n4 n5 n6 n7 n8 n9))
                      go_ret
                      exact ⟨by first | rfl | (simp [errW_none,errW_some] <;> rfl) | (simp only [← hji67];first | rfl | (simp [errW_none,errW_some] <;> rfl)) | (simp [*,errW_none,errW_some] <;> rfl),gB_ HB.out⟩
                    ·replace c83 := Bool.eq_false_iff.mpr c83
                     subst c83
                     have H1 : (some false) = some r := by rw [if_neg (show ¬ (false = true) by decide)] at H;exact H
                     clear H
                     have H := H1
                     clear H1
                     obtain rfl := Option.some.inj H
                     have hcz91_0 : wr.cell? ⟨gb484,0,none⟩ = some (.slice (some ad501) t475.length co10) := (blk_cell BK484.out 0).trans rfl
                     have hfz91_0 := blk_frozen BK484.out 0
                     have p505 : 0 ≤ (t481 : Int) := of_decide_eq_true (by first | (with_reducible assumption) | assumption)
                     have q505 : t481 < (t475.length : Int) := of_decide_eq_true (by first | (with_reducible assumption) | assumption)
                     obtain ⟨ad505,A505_0,c505_0,e505,hx505_0,hl505_0,hi505_0⟩ := at_L4 (Kd.V_reads' HO_485000.out).2.2 t481 p505 q505
                     obtain rfl : ad501 = ad505 := (by injection e505)
                     obtain ⟨ce505,hce505,hMe505,hcc505⟩ := Kd.V_get HO_485000.out [] t481 p505 (by first | exact q505 | exact of_decide_eq_true (by first | (with_reducible assumption) | assumption) | (have e_ := (Kd.V_reads' HO_485000.out).1;omega))
                     obtain ⟨ua505_0,uc505_0,rfl,ul505_0,ge505_0⟩ := Kd.FK_slice_open hMe505
                     have hv505_0 := hcc505 0 _ rfl
                     rw [Nat.add_zero,show ((Kd.slice 43 k43)).sz = 1 from rfl,Nat.mul_one] at hv505_0
                     replace hv505_0 := Option.some.inj (hv505_0.symm.trans hx505_0)
                     injection hv505_0 with hva_ hvn_ hvc_
                     rw [hva_] at ge505_0
                     rw [hvc_] at ul505_0
                     have HL505_0 := aM_ (show Kd.V k43 43 _ w.heap.size _ _ (rd_L4 t475 t481) from Kd.V_mk ul505_0 ge505_0)
                     clear hva_ hvn_ hvc_ ge505_0 ul505_0
                     clear hcc505 hce505
                     have HR505_0 := aM_ hi505_0
                     have HC505_0 := aM_ hl505_0
                     clear hi505_0 hl505_0
                     replace p505 := eq_true p505
                     replace q505 := eq_true q505
                     obtain ⟨Ao92,co92,eo92⟩ := Kd.R_slice HO_9.out
                     subst eo92
                     go_wp2_with (first | (go_at_call 23;(with_reducible refine (impl_Knows.calls k3 _ _ t486 _ _ t478 true _ ?side1 ?side2 ?side3 ?side4 A80.out).mono ?_);(case side1 => exact cS_ (Kd.R_reads' HO_9.out).2.2);(case side2 => exact (Kd.R_reads' HO_9.out).2.1);(case side3 => exact cS_ (Kd.Q_reads' HO_4.out).2.2);(case side4 => exact (Kd.Q_reads' HO_4.out).2.1);rintro e w' ⟨rfl,⟨nd,rfl⟩⟩) | (go_at_call 28;(with_reducible refine (impl_ViewOk.calls k3 _ _ t475 _ _ t486 false _ ?side1 ?side2 ?side3 ?side4 A82.out).mono ?_);(case side1 => exact cS_ (Kd.V_reads' HO_485000.out).2.2);(case side2 => exact (Kd.V_reads' HO_485000.out).2.1);(case side3 => exact cS_ (Kd.R_reads' HO_9.out).2.2);(case side4 => exact (Kd.R_reads' HO_9.out).2.1);rintro e w93 ⟨rfl,hb⟩;have n0 := aM_ (bQ_ HO_4.out hb);have n1 := aM_ (bR_ HO_9.out hb);have n2 := aM_ (Kd.V_below (by (with_reducible repeat (first | apply Kd.V_alloc | apply Kd.V_drewN | apply Kd.V_drew));exact HO_485000.out) hb);have n3 := aM_ (Kd.V_below (by (with_reducible repeat (first | apply Kd.V_alloc | apply Kd.V_drewN | apply Kd.V_drew));exact HL505_0.out) hb);have n4 := aM_ (nB_ BK484.out hb);have n5 := aM_ trivial;have n6 := aM_ trivial;have n7 := aM_ trivial;have n8 := aM_ trivial;have n9 := aM_ (sT_ HB.out hb);clear HO_4;clear HO_9;clear HO_485000;clear HL505_0;clear BK484;clear HR501_0;clear HR502_0;clear HR503_1;clear HR505_0;clear HB;have HO_4 := n0;have HO_9 := n1;have HO_485000 := n2;have HL505_0 := n3;have BK484 := n4;have HR501_0 := n5;have HR502_0 := n6;have HR503_1 := n7;have HR505_0 := n8;have HB := n9;clear n0 n1 n2 n3 n4 n5 n6 n7 n8 n9))
                     go_ret
                     exact ⟨by first | rfl | (simp [errW_none,errW_some] <;> rfl) | (simp only [← hji67];first | rfl | (simp [errW_none,errW_some] <;> rfl)) | (simp [*,errW_none,errW_some] <;> rfl),gB_ HB.out⟩
                   ·replace c81 := Bool.eq_false_iff.mpr c81
                    subst c81
                    have H1 : (some false) = some r := by rw [if_neg (show ¬ (false = true) by decide)] at H;exact H
                    clear H
                    have H := H1
                    clear H1
                    obtain rfl := Option.some.inj H
                    have hcz94_0 : wr.cell? ⟨gb484,0,none⟩ = some (.slice (some ad501) t475.length co10) := (blk_cell BK484.out 0).trans rfl
                    have hfz94_0 := blk_frozen BK484.out 0
                    have p505 : 0 ≤ (t481 : Int) := of_decide_eq_true (by first | (with_reducible assumption) | assumption)
                    have q505 : t481 < (t475.length : Int) := of_decide_eq_true (by first | (with_reducible assumption) | assumption)
                    obtain ⟨ad505,A505_0,c505_0,e505,hx505_0,hl505_0,hi505_0⟩ := at_L4 (Kd.V_reads' HO_485000.out).2.2 t481 p505 q505
                    obtain rfl : ad501 = ad505 := (by injection e505)
                    obtain ⟨ce505,hce505,hMe505,hcc505⟩ := Kd.V_get HO_485000.out [] t481 p505 (by first | exact q505 | exact of_decide_eq_true (by first | (with_reducible assumption) | assumption) | (have e_ := (Kd.V_reads' HO_485000.out).1;omega))
                    obtain ⟨ua505_0,uc505_0,rfl,ul505_0,ge505_0⟩ := Kd.FK_slice_open hMe505
                    have hv505_0 := hcc505 0 _ rfl
                    rw [Nat.add_zero,show ((Kd.slice 43 k43)).sz = 1 from rfl,Nat.mul_one] at hv505_0
                    replace hv505_0 := Option.some.inj (hv505_0.symm.trans hx505_0)
                    injection hv505_0 with hva_ hvn_ hvc_
                    rw [hva_] at ge505_0
                    rw [hvc_] at ul505_0
                    have HL505_0 := aM_ (show Kd.V k43 43 _ w.heap.size _ _ (rd_L4 t475 t481) from Kd.V_mk ul505_0 ge505_0)
                    clear hva_ hvn_ hvc_ ge505_0 ul505_0
                    clear hcc505 hce505
                    have HR505_0 := aM_ hi505_0
                    have HC505_0 := aM_ hl505_0
                    clear hi505_0 hl505_0
                    replace p505 := eq_true p505
                    replace q505 := eq_true q505
                    obtain ⟨Ao95,co95,eo95⟩ := Kd.R_slice HO_9.out
                    subst eo95
                    go_wp2_with (first | (go_at_call 23;(with_reducible refine (impl_Knows.calls k3 _ _ t486 _ _ t478 false _ ?side1 ?side2 ?side3 ?side4 A80.out).mono ?_);(case side1 => exact cS_ (Kd.R_reads' HO_9.out).2.2);(case side2 => exact (Kd.R_reads' HO_9.out).2.1);(case side3 => exact cS_ (Kd.Q_reads' HO_4.out).2.2);(case side4 => exact (Kd.Q_reads' HO_4.out).2.1);rintro e w' ⟨rfl,⟨nd,rfl⟩⟩))
                    go_ret
                    exact ⟨by first | rfl | (simp [errW_none,errW_some] <;> rfl) | (simp only [← hji67];first | rfl | (simp [errW_none,errW_some] <;> rfl)) | (simp [*,errW_none,errW_some] <;> rfl),gB_ HB.out⟩
                  ·replace c79 := Bool.eq_false_iff.mpr c79
                   subst c79
                   have H1 : (some false) = some r := by rw [if_neg (show ¬ (false = true) by decide)] at H;exact H
                   clear H
                   have H := H1
                   clear H1
                   obtain rfl := Option.some.inj H
                   have hcz96_0 : wr.cell? ⟨gb484,0,none⟩ = some (.slice (some ad501) t475.length co10) := (blk_cell BK484.out 0).trans rfl
                   have hfz96_0 := blk_frozen BK484.out 0
                   have p505 : 0 ≤ (t481 : Int) := of_decide_eq_true (by first | (with_reducible assumption) | assumption)
                   have q505 : t481 < (t475.length : Int) := of_decide_eq_true (by first | (with_reducible assumption) | assumption)
                   obtain ⟨ad505,A505_0,c505_0,e505,hx505_0,hl505_0,hi505_0⟩ := at_L4 (Kd.V_reads' HO_485000.out).2.2 t481 p505 q505
                   obtain rfl : ad501 = ad505 := (by injection e505)
                   obtain ⟨ce505,hce505,hMe505,hcc505⟩ := Kd.V_get HO_485000.out [] t481 p505 (by first | exact q505 | exact of_decide_eq_true (by first | (with_reducible assumption) | assumption) | (have e_ := (Kd.V_reads' HO_485000.out).1;omega))
                   obtain ⟨ua505_0,uc505_0,rfl,ul505_0,ge505_0⟩ := Kd.FK_slice_open hMe505
                   have hv505_0 := hcc505 0 _ rfl
                   rw [Nat.add_zero,show ((Kd.slice 43 k43)).sz = 1 from rfl,Nat.mul_one] at hv505_0
                   replace hv505_0 := Option.some.inj (hv505_0.symm.trans hx505_0)
                   injection hv505_0 with hva_ hvn_ hvc_
                   rw [hva_] at ge505_0
                   rw [hvc_] at ul505_0
                   have HL505_0 := aM_ (show Kd.V k43 43 _ w.heap.size _ _ (rd_L4 t475 t481) from Kd.V_mk ul505_0 ge505_0)
                   clear hva_ hvn_ hvc_ ge505_0 ul505_0
                   clear hcc505 hce505
                   have HR505_0 := aM_ hi505_0
                   have HC505_0 := aM_ hl505_0
                   clear hi505_0 hl505_0
                   replace p505 := eq_true p505
                   replace q505 := eq_true q505
                   go_wp2
                   go_ret
                   exact ⟨by first | rfl | (simp [errW_none,errW_some] <;> rfl) | (simp only [← hji67];first | rfl | (simp [errW_none,errW_some] <;> rfl)) | (simp [*,errW_none,errW_some] <;> rfl),gB_ HB.out⟩
                ·rw [if_neg c73] at H
                 exact absurd H (by simp)
               ·rw [if_neg c72] at H
                exact absurd H (by simp)
            ·rw [if_neg c70] at H
             exact absurd H (by simp)
           ·rw [if_neg c69] at H
            exact absurd H (by simp)
          ·rw [if_neg c68] at H
           exact absurd H (by simp)
         ·rw [if_neg c66] at H
          exact absurd H (by simp)
        ·rw [if_neg c65] at H
         exact absurd H (by simp)
end Go.Proofs.Ythbcnakmnbilhaa.PFnLoad
