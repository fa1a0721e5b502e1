/- A part of the proof that the law FnSwap holds for every input: the words, functions and walks that its row needs, without a condition of their own. -/
import Derived.Test.YthbcnakmnbilhaaZFnSwapa0
import Derived.Test.YthbcnakmnbilhaaZFnSwapa2
import Derived.Test.YthbcnakmnbilhaaZFnSwapa3
import Derived.Test.YthbcnakmnbilhaaZFnSwapa4
import Derived.Test.YthbcnakmnbilhaaZFnSwapa9
import Derived.Test.YthbcnakmnbilhaaZFnSwapa11
import Derived.Test.YthbcnakmnbilhaaZFnSwapa12
import Derived.Test.YthbcnakmnbilhaaZFnSwaps
namespace Go.Proofs.Ythbcnakmnbilhaa.PFnSwap
open Go.RowKit Go.Proofs.YthbcnakmnbilhaaW.PrintWords Go.Proofs.YthbcnakmnbilhaaW.PrintLast Go.Proofs.YthbcnakmnbilhaaW.PrintMore
attribute [local go_sem] max2_int min2_int max_two min_two max_three min_three max_four min_four   -- for this text's walks alone
set_option linter.unusedVariables false
set_option linter.unusedSimpArgs false
mutual
def laws_FnSwap.j0 : Nat → List Int → Int → Int → List Int → Int → Bool → List (List (S43)) → List (List (S43)) → Option (Bool)
  | 0, _, _, _, _, _, _, _, _ => none
  | k + 1, x4, x5, x6, x8, x9, x52, x532000, x540000 => if x52 = true then (some false) else ((spec_MemoryOk.f k x532000).bind fun t549 => (if t549 = true then ((spec_ViewOk.f k x532000 x4).bind fun t550 => (if t550 = true then (if x5 < 0 then (laws_FnSwap.j1 k x4 x5 x6 x8 x9 true x532000 x540000) else (laws_FnSwap.j1 k x4 x5 x6 x8 x9 (decide (x5 ≥ 24)) x532000 x540000)) else (laws_FnSwap.j1 k x4 x5 x6 x8 x9 true x532000 x540000))) else (laws_FnSwap.j1 k x4 x5 x6 x8 x9 true x532000 x540000)))
def laws_FnSwap.j1 : Nat → List Int → Int → Int → List Int → Int → Bool → List (List (S43)) → List (List (S43)) → Option (Bool)
  | 0, _, _, _, _, _, _, _, _ => none
  | k + 1, x4, x5, x6, x8, x9, x69, x532000, x540000 => if x69 = true then (if x9 = 0 then ((laws_sameInts.f k x8 x4).bind fun t551 => (some t551)) else (some false)) else ((impl_Load.f k x532000 x4 x5 0 false).bind fun bt552 => ((impl_Load.f k x540000 x8 x5 0 false).bind fun bt556 => (if bt552.1 = x9 then (if bt556.1 = x6 then ((impl_Knows.f k x8 x4).bind fun t560 => (if t560 = true then ((impl_MemoryOk.f k x540000).bind fun t561 => (some t561)) else (some false))) else (some false)) else (some false))))
end
def laws_FnSwap.f (k : Nat) (l0 : List Int) : Option (Bool) := (laws_big.f l0).bind fun t522 => (if t522 = true then (some true) else ((spec_DrawSwap.f k l0).bind fun bt523 => ((impl_Swap.f k bt523.1 bt523.2.1 bt523.2.2.1 bt523.2.2.2).bind fun bt532 => ((spec_Swap.f k bt523.1 bt523.2.1 bt523.2.2.1 bt523.2.2.2).bind fun bt540 => ((laws_sameInts.f k bt532.2.1 bt540.2.1).bind fun t548 => (if t548 = true then (laws_FnSwap.j0 k bt523.2.1 bt523.2.2.1 bt523.2.2.2 bt532.2.1 bt532.2.2 (bt532.2.2 != bt540.2.2) bt523.1 bt532.1) else (laws_FnSwap.j0 k bt523.2.1 bt523.2.2.1 bt523.2.2.2 bt532.2.1 bt532.2.2 true bt523.1 bt532.1)))))))
set_option maxHeartbeats 8000000 in
set_option maxRecDepth 100000 in
theorem laws_FnSwap.calls (k : Nat) (A0 : Option Addr) (c0 : Nat) (l0 : List Int) (r : Bool) (w : World) (hr0 : Kd.C (Kd.int .u8) w A0 l0.length l0) (hc0 : l0.length ≤ c0) (h : laws_FnSwap.f k l0 = some r) :
  Calls Try.prog 9 #[.slice A0 l0.length c0] w fun e w' => e = .returned (.bool r) ∧ Below w.heap.size w w' := by
 have hu24 := Try.underlying24
 have HR0 := aM_ hr0
 have HC0 := aM_ hc0
 clear hr0 hc0
 have HB := aM_ (Below.refl w.heap.size w)
 have H : ((laws_big.f l0).bind fun t522 => (if t522 = true then (some true) else ((spec_DrawSwap.f k l0).bind fun bt523 => ((impl_Swap.f k bt523.1 bt523.2.1 bt523.2.2.1 bt523.2.2.2).bind fun bt532 => ((spec_Swap.f k bt523.1 bt523.2.1 bt523.2.2.1 bt523.2.2.2).bind fun bt540 => ((laws_sameInts.f k bt532.2.1 bt540.2.1).bind fun t548 => (if t548 = true then (laws_FnSwap.j0 k bt523.2.1 bt523.2.2.1 bt523.2.2.2 bt532.2.1 bt532.2.2 (bt532.2.2 != bt540.2.2) bt523.1 bt532.1) else (laws_FnSwap.j0 k bt523.2.1 bt523.2.2.1 bt523.2.2.2 bt532.2.1 bt532.2.2 true bt523.1 bt532.1)))))))) = some r := h
 clear h
 replace H := Option.bind_eq_some_iff.mp H
 obtain ⟨t522, A20, H⟩ := H
 replace H : (if t522 = true then (some true) else ((spec_DrawSwap.f k l0).bind fun bt523 => ((impl_Swap.f k bt523.1 bt523.2.1 bt523.2.2.1 bt523.2.2.2).bind fun bt532 => ((spec_Swap.f k bt523.1 bt523.2.1 bt523.2.2.1 bt523.2.2.2).bind fun bt540 => ((laws_sameInts.f k bt532.2.1 bt540.2.1).bind fun t548 => (if t548 = true then (laws_FnSwap.j0 k bt523.2.1 bt523.2.2.1 bt523.2.2.2 bt532.2.1 bt532.2.2 (bt532.2.2 != bt540.2.2) bt523.1 bt532.1) else (laws_FnSwap.j0 k bt523.2.1 bt523.2.2.1 bt523.2.2.2 bt532.2.1 bt532.2.2 true bt523.1 bt532.1))))))) = some r := H
 have A2 := aM_ A20
 clear A20
 by_cases c3 : t522 = true
 ·subst c3
  have H1 : (some true) = some r := by rw [if_pos rfl] at H; exact H
  clear H
  have H := H1
  clear H1
  obtain rfl := Option.some.inj H
  go_enter Try.func9, Try.ntmps9
  go_wp2_with (first | ((with_reducible refine gate_callee (f := 18) rfl ?_); refine gL_ (some 18) Try.func18 #[.slice A0 l0.length c0] ?_; (with_reducible refine (laws_big.calls _ _ l0 true _ ?side1 ?side2 A2.out).mono ?_); (case side1 => exact cS_ HR0.out); (case side2 => exact HC0.out); rintro e w' ⟨rfl, ⟨nd, rfl⟩⟩; refine ⟨_, rfl, ?_⟩))
  go_ret
  exact fI_ HB.out
 ·replace c3 := Bool.eq_false_iff.mpr c3
  subst c3
  have H1 : ((spec_DrawSwap.f k l0).bind fun bt523 => ((impl_Swap.f k bt523.1 bt523.2.1 bt523.2.2.1 bt523.2.2.2).bind fun bt532 => ((spec_Swap.f k bt523.1 bt523.2.1 bt523.2.2.1 bt523.2.2.2).bind fun bt540 => ((laws_sameInts.f k bt532.2.1 bt540.2.1).bind fun t548 => (if t548 = true then (laws_FnSwap.j0 k bt523.2.1 bt523.2.2.1 bt523.2.2.2 bt532.2.1 bt532.2.2 (bt532.2.2 != bt540.2.2) bt523.1 bt532.1) else (laws_FnSwap.j0 k bt523.2.1 bt523.2.2.1 bt523.2.2.2 bt532.2.1 bt532.2.2 true bt523.1 bt532.1)))))) = some r := by rw [if_neg (show ¬ (false = true) by decide)] at H; exact H
  clear H
  have H := H1
  clear H1
  replace H := Option.bind_eq_some_iff.mp H
  obtain ⟨⟨t523, t526, t529, t530⟩, A40, H⟩ := H
  replace H : ((impl_Swap.f k t523 t526 t529 t530).bind fun bt532 => ((spec_Swap.f k t523 t526 t529 t530).bind fun bt540 => ((laws_sameInts.f k bt532.2.1 bt540.2.1).bind fun t548 => (if t548 = true then (laws_FnSwap.j0 k t526 t529 t530 bt532.2.1 bt532.2.2 (bt532.2.2 != bt540.2.2) t523 bt532.1) else (laws_FnSwap.j0 k t526 t529 t530 bt532.2.1 bt532.2.2 true t523 bt532.1))))) = some r := H
  have A4 := aM_ A40
  clear A40
  replace H := Option.bind_eq_some_iff.mp H
  obtain ⟨⟨t532, t535, t538⟩, A50, H⟩ := H
  replace H : ((spec_Swap.f k t523 t526 t529 t530).bind fun bt540 => ((laws_sameInts.f k t535 bt540.2.1).bind fun t548 => (if t548 = true then (laws_FnSwap.j0 k t526 t529 t530 t535 t538 (t538 != bt540.2.2) t523 t532) else (laws_FnSwap.j0 k t526 t529 t530 t535 t538 true t523 t532)))) = some r := H
  have A5 := aM_ A50
  clear A50
  replace H := Option.bind_eq_some_iff.mp H
  obtain ⟨⟨t540, t543, t546⟩, A60, H⟩ := H
  replace H : ((laws_sameInts.f k t535 t543).bind fun t548 => (if t548 = true then (laws_FnSwap.j0 k t526 t529 t530 t535 t538 (t538 != t546) t523 t532) else (laws_FnSwap.j0 k t526 t529 t530 t535 t538 true t523 t532))) = some r := H
  have A6 := aM_ A60
  clear A60
  have HC7 := aM_ H
  clear H
  go_enter Try.func9, Try.ntmps9
  go_upto_region 6 with (first | ((with_reducible refine gate_callee (f := 18) rfl ?_); refine gL_ (some 18) Try.func18 #[.slice A0 l0.length c0] ?_; (with_reducible refine (laws_big.calls _ _ l0 false _ ?side1 ?side2 A2.out).mono ?_); (case side1 => exact cS_ HR0.out); (case side2 => exact HC0.out); rintro e w' ⟨rfl, ⟨nd, rfl⟩⟩; refine ⟨_, rfl, ?_⟩) | ((with_reducible refine gate_callee (f := 44) rfl ?_); refine gL_ (some 21) Try.func44 #[.slice A0 l0.length c0] ?_; (with_reducible refine (spec_DrawSwap.calls k _ _ l0 t523 t526 t529 t530 _ ?side1 ?side2 A4.out).mono ?_); (case side1 => exact cS_ HR0.out); (case side2 => exact HC0.out); rintro e w8 ⟨v524, v527, rfl, ho0, ho1, hb⟩; refine ⟨_, rfl, ?_⟩; have n0 := aM_ (Kd.V_lower (Kd.V_mono (ok' := fun k_ => some k_ ≠ (v527 : Value).ownBlock) ho0 (fun k_ hk_ => hk_.2)) (below_size (gB_ HB.out))); have n1 := aM_ (Kd.Q_lower (Kd.Q_mono (ok' := fun k_ => True) ho1 (fun _ hk_ => trivial)) (below_size (gB_ HB.out))); have n2 := aM_ (sT_ HB.out hb); clear HB; have HO525 := n0; have HO528 := n1; have HB := n2; clear n0 n1 n2; (try clear ho0); (try clear ho1)) | ((with_reducible refine gate_dst (N := 3) rfl ?_); refine bX_ 3 (cs := #[.slice none 0 0]) (t := 24) ?_; intro gb531 hg w9 hbox hb; have n0 := aM_ (Kd.V_below (Kd.V_elderB (by (with_reducible repeat (first | apply Kd.V_alloc | apply Kd.V_drewN | apply Kd.V_drew)); exact HO525.out) gb531 (Nat.le_of_eq hg.symm)) hb); have n1 := aM_ (bQ_ HO528.out hb); have n2 := aM_ (sT_ HB.out hb); have n3 := aM_ (hbox); have n4 := aM_ (sZ_ hg HB.out); have n5 := aM_ (sZ_ hg HB.out); clear HO525; clear HO528; clear HB; have HO525 := n0; have HO528 := n1; have HB := n2; have BK531 := n3; have GW531 := n4; have GE531 := n5; clear n0 n1 n2 n3 n4 n5; clear hb hbox hg; obtain ⟨Ao10, co10, eo10⟩ := Kd.V_slice HO525.out; subst eo10; have hcz11_0 : w9.cell? ⟨gb531, 0, none⟩ = some (.slice none 0 0) := (blk_cell BK531.out 0).trans rfl; have hfz11_0 := blk_frozen BK531.out 0; obtain ⟨Ao12, co12, eo12, _⟩ := Kd.Q_slice HO528.out; subst eo12) | ((with_reducible refine gate_callee (f := 45) rfl ?_); refine gL_ (some 31) Try.func45 #[.agg #[.slice Ao10 t523.length co10], .slice Ao12 t526.length co12, .int .i64 t529, .int .i64 t530] ?_; (with_reducible refine (impl_Swap.calls k _ _ t523 _ _ t526 t529 t530 t532 t535 t538 _ ?side1 ?side2 ?side3 ?side4 A5.out).mono ?_); (case side1 => refine (Kd.V_reads' (e := 44) (base := w.heap.size) (ok := fun k_ => (some k_ ≠ (.slice Ao12 t526.length co12 : Value).ownBlock ∧ k_ ≠ gb531)) (n := t523.length) (c := co10) ?_).2.2; exact (by (with_reducible repeat (first | apply Kd.V_alloc | apply Kd.V_drewN | apply Kd.V_drew)); exact (Kd.V_mono (Kd.V_far (p := ⟨gb531, 0, none⟩) (Kd.V_mono HO525.out (fun k_ hk => (⟨hk, hk.2⟩ : _ ∧ k_ ≠ gb531))) (fun _ hk => hk.2) (.slice Ao10 t523.length co10)) (fun _ h_ => h_.1)))); (case side2 => exact (Kd.V_reads' HO525.out).2.1); (case side3 => refine (Kd.Q_reads' (e := 3) (base := w.heap.size) (ok := fun k_ => True) (n := t526.length) (c := co12) ?_).2.2; exact (by (with_reducible repeat (first | apply qA_ | apply qN_ | apply qD_)); exact (Kd.Q_mono (Kd.Q_far (p := ⟨gb531, 0, none⟩) (Kd.Q_types HO528.out BK531.out (by decide)) (fun _ hk => hk.2) (.slice Ao10 t523.length co10)) (fun _ h_ => h_.1)))); (case side4 => exact (Kd.Q_reads' HO528.out).2.1); rintro e w13 ⟨v533, v536, rfl, ho0, ho1, hb⟩; refine ⟨_, rfl, ?_⟩; have n0 := aM_ (Kd.V_mono (Kd.V_told (Kd.V_told (Kd.V_old (by (with_reducible repeat (first | apply Kd.V_alloc | apply Kd.V_drewN | apply Kd.V_drew)); exact (Kd.V_mono (Kd.V_far (p := ⟨gb531, 0, none⟩) (Kd.V_mono HO525.out (fun k_ hk => (⟨hk, hk.2⟩ : _ ∧ k_ ≠ gb531))) (fun _ hk => hk.2) (.slice Ao10 t523.length co10)) (fun _ h_ => h_.1))) hb) (Kd.R_base ho0)) (Kd.R_base ho1)) (fun _ h_ => h_.1)); have n1 := aM_ (Kd.Q_elder' (by (with_reducible repeat (first | apply qA_ | apply qN_ | apply qD_)); exact (Kd.Q_mono (Kd.Q_far (p := ⟨gb531, 0, none⟩) (Kd.Q_types HO528.out BK531.out (by decide)) (fun _ hk => hk.2) (.slice Ao10 t523.length co10)) (fun _ h_ => h_.1))) (Kd.R_base ho1) hb); have n2 := aM_ (Kd.R_lower (Kd.R_new' ho0 (Kd.Q_lt (by (with_reducible repeat (first | apply qA_ | apply qN_ | apply qD_)); exact (Kd.Q_mono (Kd.Q_far (p := ⟨gb531, 0, none⟩) (Kd.Q_types HO528.out BK531.out (by decide)) (fun _ hk => hk.2) (.slice Ao10 t523.length co10)) (fun _ h_ => h_.1))))) (below_size (gB_ HB.out))); have n3 := aM_ (Kd.R_lower (Kd.R_new' ho1 (Kd.Q_lt (by (with_reducible repeat (first | apply qA_ | apply qN_ | apply qD_)); exact (Kd.Q_mono (Kd.Q_far (p := ⟨gb531, 0, none⟩) (Kd.Q_types HO528.out BK531.out (by decide)) (fun _ hk => hk.2) (.slice Ao10 t523.length co10)) (fun _ h_ => h_.1))))) (below_size (gB_ HB.out))); have n4 := aM_ (blk_below (g := gb531) (o := .cells #[.slice Ao10 t523.length co10] 24 (0, 0)) (by (with_reducible repeat (first | refine bN_ ?_ _ | refine bD_ ?_ | refine bA_ ?_ _)); refine blk_put (cs := #[.slice none 0 0]) ?_ 0 _ rfl; exact rW_ BK531.out) hb); have n5 := aM_ (sT_ HB.out hb); clear HO525; clear HO528; clear BK531; clear HB; have HO525 := n0; have HO528 := n1; have HO534 := n2; have HO537 := n3; have BK531 := n4; have HB := n5; clear n0 n1 n2 n3 n4 n5; (try clear ho0); (try clear ho1)) | ((with_reducible refine gate_dst (N := 7) rfl ?_); refine bX_ 7 (cs := #[.slice none 0 0]) (t := 24) ?_; intro gb539 hg w14 hbox hb; have n0 := aM_ (Kd.V_below (Kd.V_elderB (by (with_reducible repeat (first | apply Kd.V_alloc | apply Kd.V_drewN | apply Kd.V_drew)); exact HO525.out) gb539 (Nat.le_of_eq hg.symm)) hb); have n1 := aM_ (bQ_ HO528.out hb); have n2 := aM_ (bR_ HO534.out hb); have n3 := aM_ (bR_ HO537.out hb); have n4 := aM_ (nB_ BK531.out hb); have n5 := aM_ (sT_ HB.out hb); have n6 := aM_ (hbox); have n7 := aM_ (sZ_ hg HB.out); have n8 := aM_ (sZ_ hg HB.out); have n9 := aM_ (nL_ hg BK531.out); have n10 := aM_ (nG_ hg BK531.out); clear HO525; clear HO528; clear HO534; clear HO537; clear BK531; clear HB; have HO525 := n0; have HO528 := n1; have HO534 := n2; have HO537 := n3; have BK531 := n4; have HB := n5; have BK539 := n6; have GW539 := n7; have GE539 := n8; have NB531_539 := n9; have NB539_531 := n10; clear n0 n1 n2 n3 n4 n5 n6 n7 n8 n9 n10; clear hb hbox hg; obtain ⟨Ao15, co15, eo15⟩ := Kd.R_slice HO534.out; subst eo15; have hnb16 := NB539_531.out; have hnc16 := NB531_539.out; have hcz17_0 : w14.cell? ⟨gb539, 0, none⟩ = some (.slice none 0 0) := (blk_cell BK539.out 0).trans rfl; have hfz17_0 := blk_frozen BK539.out 0; have hcz18_0 : w14.cell? ⟨gb531, 0, none⟩ = some (.slice Ao10 t523.length co10) := (blk_cell BK531.out 0).trans rfl; have hfz18_0 := blk_frozen BK531.out 0) | ((with_reducible refine gate_callee (f := 46) rfl ?_); refine gL_ (some 40) Try.func46 #[.agg #[.slice Ao10 t523.length co10], .slice Ao12 t526.length co12, .int .i64 t529, .int .i64 t530] ?_; (with_reducible refine (spec_Swap.calls k _ _ t523 _ _ t526 t529 t530 t540 t543 t546 _ ?side1 ?side2 ?side3 ?side4 A6.out).mono ?_); (case side1 => refine (Kd.V_reads' (e := 44) (base := w.heap.size) (ok := fun k_ => ((((some k_ ≠ (.slice Ao12 t526.length co12 : Value).ownBlock ∧ k_ ≠ gb531) ∧ some k_ ≠ (.slice Ao15 t532.length co15 : Value).ownBlock) ∧ some k_ ≠ (v536 : Value).ownBlock) ∧ k_ ≠ gb539)) (n := t523.length) (c := co10) ?_).2.2; exact (by (with_reducible repeat (first | apply Kd.V_alloc | apply Kd.V_drewN | apply Kd.V_drew)); exact (Kd.V_mono (Kd.V_far (p := ⟨gb539, 0, none⟩) (Kd.V_mono HO525.out (fun k_ hk => (⟨hk, hk.2⟩ : _ ∧ k_ ≠ gb539))) (fun _ hk => hk.2) (.slice Ao15 t532.length co15)) (fun _ h_ => h_.1)))); (case side2 => exact (Kd.V_reads' HO525.out).2.1); (case side3 => refine (Kd.Q_reads' (e := 3) (base := w.heap.size) (ok := fun k_ => (True ∧ some k_ ≠ (v536 : Value).ownBlock)) (n := t526.length) (c := co12) ?_).2.2; exact (by (with_reducible repeat (first | apply qA_ | apply qN_ | apply qD_)); exact (Kd.Q_mono (Kd.Q_far (p := ⟨gb539, 0, none⟩) (Kd.Q_types HO528.out BK539.out (by decide)) (fun _ hk => hk.2) (.slice Ao15 t532.length co15)) (fun _ h_ => h_.1)))); (case side4 => exact (Kd.Q_reads' HO528.out).2.1); rintro e w19 ⟨v541, v544, rfl, ho0, ho1, hb⟩; refine ⟨_, rfl, ?_⟩; have n0 := aM_ (Kd.V_elder' (by (with_reducible repeat (first | apply Kd.V_alloc | apply Kd.V_drewN | apply Kd.V_drew)); exact (Kd.V_mono (Kd.V_far (p := ⟨gb539, 0, none⟩) (Kd.V_mono HO525.out (fun k_ hk => (⟨hk, hk.2⟩ : _ ∧ k_ ≠ gb539))) (fun _ hk => hk.2) (.slice Ao15 t532.length co15)) (fun _ h_ => h_.1))) (Kd.R_base ho1) hb); have n1 := aM_ (Kd.Q_elder' (by (with_reducible repeat (first | apply qA_ | apply qN_ | apply qD_)); exact (Kd.Q_mono (Kd.Q_far (p := ⟨gb539, 0, none⟩) (Kd.Q_types HO528.out BK539.out (by decide)) (fun _ hk => hk.2) (.slice Ao15 t532.length co15)) (fun _ h_ => h_.1))) (Kd.R_base ho1) hb); have n2 := aM_ (Kd.R_elder' (by (with_reducible repeat (first | apply rA_ | apply rN_ | apply rD_)); exact (Kd.R_mono (Kd.R_far (p := ⟨gb539, 0, none⟩) (Kd.R_types HO534.out BK539.out (by decide)) (fun _ hk => hk.2) (.slice Ao15 t532.length co15)) (fun _ h_ => h_.1))) (Kd.R_base ho1) hb); have n3 := aM_ (Kd.R_elder' (by (with_reducible repeat (first | apply rA_ | apply rN_ | apply rD_)); exact (Kd.R_mono (Kd.R_far (p := ⟨gb539, 0, none⟩) (Kd.R_types HO537.out BK539.out (by decide)) (fun _ hk => hk.2) (.slice Ao15 t532.length co15)) (fun _ h_ => h_.1))) (Kd.R_base ho1) hb); have n4 := aM_ (Kd.V_lower (Kd.V_mono (ok' := fun k_ => some k_ ≠ (v544 : Value).ownBlock ∧ some k_ ≠ (.slice Ao12 t526.length co12 : Value).ownBlock ∧ some k_ ≠ (.slice Ao15 t532.length co15 : Value).ownBlock ∧ some k_ ≠ (v536 : Value).ownBlock ∧ k_ ≠ gb531 ∧ k_ ≠ gb539) ho0 (fun k_ hk_ => ⟨hk_.2, (Kd.fresh' (Kd.Q_lt (by (with_reducible repeat (first | apply qA_ | apply qN_ | apply qD_)); exact (Kd.Q_mono (Kd.Q_far (p := ⟨gb539, 0, none⟩) (Kd.Q_types HO528.out BK539.out (by decide)) (fun _ hk => hk.2) (.slice Ao15 t532.length co15)) (fun _ h_ => h_.1)))) k_ hk_.1), (Kd.fresh' (Kd.R_lt (by (with_reducible repeat (first | apply rA_ | apply rN_ | apply rD_)); exact (Kd.R_mono (Kd.R_far (p := ⟨gb539, 0, none⟩) (Kd.R_types HO534.out BK539.out (by decide)) (fun _ hk => hk.2) (.slice Ao15 t532.length co15)) (fun _ h_ => h_.1)))) k_ hk_.1), (Kd.fresh' (Kd.R_lt (by (with_reducible repeat (first | apply rA_ | apply rN_ | apply rD_)); exact (Kd.R_mono (Kd.R_far (p := ⟨gb539, 0, none⟩) (Kd.R_types HO537.out BK539.out (by decide)) (fun _ hk => hk.2) (.slice Ao15 t532.length co15)) (fun _ h_ => h_.1)))) k_ hk_.1), (Kd.freshB (g := gb531) (o := .cells #[.slice Ao10 t523.length co10] 24 (0, 0)) (rWf_ BK531.out) k_ hk_.1), (Kd.freshB (g := gb539) (o := .cells #[.slice Ao15 t532.length co15] 24 (0, 0)) (by (with_reducible repeat (first | refine bN_ ?_ _ | refine bD_ ?_ | refine bA_ ?_ _)); refine blk_put (cs := #[.slice none 0 0]) ?_ 0 _ rfl; exact rW_ BK539.out) k_ hk_.1)⟩)) (below_size (gB_ HB.out))); have n5 := aM_ (Kd.R_lower (Kd.R_new' (Kd.R_new' (Kd.R_mono (ok' := fun k_ => True) ho1 (fun _ hk_ => trivial)) (Kd.Q_lt (by (with_reducible repeat (first | apply qA_ | apply qN_ | apply qD_)); exact (Kd.Q_mono (Kd.Q_far (p := ⟨gb539, 0, none⟩) (Kd.Q_types HO528.out BK539.out (by decide)) (fun _ hk => hk.2) (.slice Ao15 t532.length co15)) (fun _ h_ => h_.1))))) (Kd.R_lt (by (with_reducible repeat (first | apply rA_ | apply rN_ | apply rD_)); exact (Kd.R_mono (Kd.R_far (p := ⟨gb539, 0, none⟩) (Kd.R_types HO537.out BK539.out (by decide)) (fun _ hk => hk.2) (.slice Ao15 t532.length co15)) (fun _ h_ => h_.1))))) (below_size (gB_ HB.out))); have n6 := aM_ (nBf_ BK531.out hb); have n7 := aM_ (blk_below (g := gb539) (o := .cells #[.slice Ao15 t532.length co15] 24 (0, 0)) (by (with_reducible repeat (first | refine bN_ ?_ _ | refine bD_ ?_ | refine bA_ ?_ _)); refine blk_put (cs := #[.slice none 0 0]) ?_ 0 _ rfl; exact rW_ BK539.out) hb); have n8 := aM_ (sT_ HB.out hb); clear HO525; clear HO528; clear HO534; clear HO537; clear BK531; clear BK539; clear HB; have HO525 := n0; have HO528 := n1; have HO534 := n2; have HO537 := n3; have HO542 := n4; have HO545 := n5; have BK531 := n6; have BK539 := n7; have HB := n8; clear n0 n1 n2 n3 n4 n5 n6 n7 n8; (try clear ho0); (try clear ho1)) | ((with_reducible refine gate_dst (N := 10) rfl ?_); refine bX_ 10 (cs := #[.slice none 0 0]) (t := 24) ?_; intro gb547 hg w20 hbox hb; have n0 := aM_ (Kd.V_below (Kd.V_elderB (by (with_reducible repeat (first | apply Kd.V_alloc | apply Kd.V_drewN | apply Kd.V_drew)); exact HO525.out) gb547 (Nat.le_of_eq hg.symm)) hb); have n1 := aM_ (bQ_ HO528.out hb); have n2 := aM_ (bR_ HO534.out hb); have n3 := aM_ (bR_ HO537.out hb); have n4 := aM_ (Kd.V_below (Kd.V_elderB (by (with_reducible repeat (first | apply Kd.V_alloc | apply Kd.V_drewN | apply Kd.V_drew)); exact HO542.out) gb547 (Nat.le_of_eq hg.symm)) hb); have n5 := aM_ (bR_ HO545.out hb); have n6 := aM_ (nB_ BK531.out hb); have n7 := aM_ (nB_ BK539.out hb); have n8 := aM_ (sT_ HB.out hb); have n9 := aM_ (hbox); have n10 := aM_ (sZ_ hg HB.out); have n11 := aM_ (sZ_ hg HB.out); have n12 := aM_ (nL_ hg BK531.out); have n13 := aM_ (nG_ hg BK531.out); have n14 := aM_ (nL_ hg BK539.out); have n15 := aM_ (nG_ hg BK539.out); clear HO525; clear HO528; clear HO534; clear HO537; clear HO542; clear HO545; clear BK531; clear BK539; clear HB; have HO525 := n0; have HO528 := n1; have HO534 := n2; have HO537 := n3; have HO542 := n4; have HO545 := n5; have BK531 := n6; have BK539 := n7; have HB := n8; have BK547 := n9; have GW547 := n10; have GE547 := n11; have NB531_547 := n12; have NB547_531 := n13; have NB539_547 := n14; have NB547_539 := n15; clear n0 n1 n2 n3 n4 n5 n6 n7 n8 n9 n10 n11 n12 n13 n14 n15; clear hb hbox hg; obtain ⟨Ao21, co21, eo21⟩ := Kd.V_slice HO542.out; subst eo21; have hnb22 := NB547_531.out; have hnc22 := NB531_547.out; have hnb23 := NB547_539.out; have hnc23 := NB539_547.out; have hcz24_0 : w20.cell? ⟨gb547, 0, none⟩ = some (.slice none 0 0) := (blk_cell BK547.out 0).trans rfl; have hfz24_0 := blk_frozen BK547.out 0))
  (try simp only [Act.put, List.setIfInBounds_toArray, List.set_cons_zero, List.set_cons_succ])
  go_cut [52] (fun v52 wc => ∃ (kq : Nat) (x52_6 : Bool), v52 = .bool x52_6 ∧ Aside0 (laws_FnSwap.j0 kq t526 t529 t530 t535 t538 x52_6 t523 t532 = some r) ∧ Aside0 (kq ≤ k) ∧ Aside0 (Kd.Q (Kd.int .i64) 3 wc w.heap.size (fun k_ => some k_ ≠ (v536 : Value).ownBlock) (.slice Ao12 t526.length co12) t526) ∧ Aside0 (Kd.R (Kd.int .i64) 3 wc w.heap.size (fun k_ => some k_ ≠ ((.slice Ao12 t526.length co12) : Value).ownBlock) v536 t535) ∧ Aside0 (Kd.V (Kd.slice 43 k43) 44 wc w.heap.size (fun k_ => some k_ ≠ ((.slice Ao12 t526.length co12) : Value).ownBlock ∧ some k_ ≠ (v536 : Value).ownBlock ∧ some k_ ≠ ((.slice Ao15 t532.length co15) : Value).ownBlock ∧ k_ ≠ gb531 ∧ k_ ≠ gb539 ∧ k_ ≠ gb547) (.slice Ao10 t523.length co10) t523) ∧ Aside0 (Kd.R (Kd.slice 43 k43) 44 wc w.heap.size (fun k_ => some k_ ≠ ((.slice Ao12 t526.length co12) : Value).ownBlock ∧ some k_ ≠ (v536 : Value).ownBlock) (.slice Ao15 t532.length co15) t532) ∧ Aside0 (Kd.V (Kd.slice 43 k43) 44 wc w.heap.size (fun k_ => some k_ ≠ ((.slice Ao12 t526.length co12) : Value).ownBlock ∧ some k_ ≠ (v536 : Value).ownBlock ∧ some k_ ≠ ((.slice Ao15 t532.length co15) : Value).ownBlock ∧ k_ ≠ gb531 ∧ k_ ≠ gb539 ∧ k_ ≠ gb547) (.slice Ao21 t540.length co21) t540) ∧ Aside0 (wc.heap[gb531]? = some (.cells #[(.slice Ao10 t523.length co10)] 24 (0, 0))) ∧ Aside0 (wc.heap[gb539]? = some (.cells #[(.slice Ao15 t532.length co15)] 24 (0, 0))) ∧ Aside0 (wc.heap[gb547]? = some (.cells #[(.slice Ao21 t540.length co21)] 24 (0, 0))) ∧ Aside0 (Below w.heap.size w wc))
  case first =>
   have H := HC7.out
   clear HC7
   replace H := Option.bind_eq_some_iff.mp H
   obtain ⟨t548, A250, H⟩ := H
   replace H : (if t548 = true then (laws_FnSwap.j0 k t526 t529 t530 t535 t538 (t538 != t546) t523 t532) else (laws_FnSwap.j0 k t526 t529 t530 t535 t538 true t523 t532)) = some r := H
   have A25 := aM_ A250
   clear A250
   by_cases c26 : t548 = true
   ·subst c26
    have H1 : (laws_FnSwap.j0 k t526 t529 t530 t535 t538 (t538 != t546) t523 t532) = some r := by rw [if_pos rfl] at H; exact H
    clear H
    have H := H1
    clear H1
    have H' := aM_ H
    clear H
    obtain ⟨Ao27, co27, eo27⟩ := Kd.R_slice HO537.out
    subst eo27
    obtain ⟨Ao28, co28, eo28⟩ := Kd.R_slice HO545.out
    subst eo28
    go_wp2_with (first | ((with_reducible refine gate_callee (f := 25) rfl ?_); refine gL_ (some 46) Try.func25 #[.slice Ao27 t535.length co27, .slice Ao28 t543.length co28] ?_; (with_reducible refine (laws_sameInts.calls k _ _ t535 _ _ t543 true _ ?side1 ?side2 ?side3 ?side4 A25.out).mono ?_); (case side1 => refine (Kd.R_reads' (e := 3) (base := w.heap.size) (ok := fun k_ => ((True ∧ some k_ ≠ (.slice Ao12 t526.length co12 : Value).ownBlock) ∧ some k_ ≠ (.slice Ao28 t543.length co28 : Value).ownBlock)) (n := t535.length) (c := co27) ?_).2.2; exact (by (with_reducible repeat (first | apply rA_ | apply rN_ | apply rD_)); exact (Kd.R_mono (Kd.R_far (p := ⟨gb547, 0, none⟩) (Kd.R_types HO537.out BK547.out (by decide)) (fun _ hk => hk.2) (.slice Ao21 t540.length co21)) (fun _ h_ => h_.1)))); (case side2 => exact (Kd.R_reads' HO537.out).2.1); (case side3 => refine (Kd.R_reads' (e := 3) (base := w.heap.size) (ok := fun k_ => ((True ∧ some k_ ≠ (.slice Ao12 t526.length co12 : Value).ownBlock) ∧ some k_ ≠ (.slice Ao27 t535.length co27 : Value).ownBlock)) (n := t543.length) (c := co28) ?_).2.2; exact (by (with_reducible repeat (first | apply rA_ | apply rN_ | apply rD_)); exact (Kd.R_mono (Kd.R_far (p := ⟨gb547, 0, none⟩) (Kd.R_types HO545.out BK547.out (by decide)) (fun _ hk => hk.2) (.slice Ao21 t540.length co21)) (fun _ h_ => h_.1)))); (case side4 => exact (Kd.R_reads' HO545.out).2.1); rintro e w' ⟨rfl, ⟨nd, rfl⟩⟩; refine ⟨_, rfl, ?_⟩))
    go_meet
    case rel => exact ⟨_, ((t538 != t546)), (by first | rfl | (simp; done) | (simp [*]; done)), H', ⟨by first | omega | exact Nat.le_refl _⟩, ⟨by (with_reducible repeat (first | apply qA_ | apply qN_ | apply qD_)); exact Kd.Q_mono (Kd.Q_far (p := ⟨gb547, 0, none⟩) (Kd.Q_types HO528.out BK547.out (by decide)) (fun _ hk => hk.2) (.slice Ao21 t540.length co21)) (fun _ hk => hk.1.1.2)⟩, ⟨by (with_reducible repeat (first | apply rA_ | apply rN_ | apply rD_)); exact Kd.R_mono (Kd.R_far (p := ⟨gb547, 0, none⟩) (Kd.R_types HO537.out BK547.out (by decide)) (fun _ hk => hk.2) (.slice Ao21 t540.length co21)) (fun _ hk => hk.1.1.2)⟩, ⟨by (with_reducible repeat (first | apply Kd.V_alloc | apply Kd.V_drewN | apply Kd.V_drew)); exact Kd.V_mono (Kd.V_far (p := ⟨gb547, 0, none⟩) (Kd.V_mono HO525.out (fun k_ hk => (⟨hk, hk.2⟩ : _ ∧ k_ ≠ gb547))) (fun _ hk => hk.2) (.slice Ao21 t540.length co21)) (fun _ hk => ⟨hk.1.1.1.1.1.1.1, ⟨hk.1.1.1.1.2, ⟨hk.1.1.1.1.1.2, ⟨hk.1.1.1.1.1.1.2, ⟨hk.1.1.1.2, hk.1.2⟩⟩⟩⟩⟩)⟩, ⟨by (with_reducible repeat (first | apply rA_ | apply rN_ | apply rD_)); exact Kd.R_mono (Kd.R_far (p := ⟨gb547, 0, none⟩) (Kd.R_types HO534.out BK547.out (by decide)) (fun _ hk => hk.2) (.slice Ao21 t540.length co21)) (fun _ hk => ⟨hk.1.1.2, hk.1.1.1⟩)⟩, ⟨by (with_reducible repeat (first | apply Kd.V_alloc | apply Kd.V_drewN | apply Kd.V_drew)); exact Kd.V_mono (Kd.V_far (p := ⟨gb547, 0, none⟩) (Kd.V_mono HO542.out (fun k_ hk => (⟨hk, hk.2⟩ : _ ∧ k_ ≠ gb547))) (fun _ hk => hk.2) (.slice Ao21 t540.length co21)) (fun _ hk => ⟨hk.1.1.2.1, ⟨hk.1.1.2.2.2.1, ⟨hk.1.1.2.2.1, ⟨hk.1.1.2.2.2.2.1, ⟨hk.1.1.2.2.2.2.2, hk.1.2⟩⟩⟩⟩⟩)⟩, ⟨by (with_reducible repeat (first | refine bN_ ?_ _ | refine bD_ ?_ | refine bA_ ?_ _)); refine blk_far ?_ NB531_547.out _; (with_reducible repeat (first | refine bN_ ?_ _ | refine bD_ ?_ | refine bA_ ?_ _)); exact BK531.out⟩, ⟨by (with_reducible repeat (first | refine bN_ ?_ _ | refine bD_ ?_ | refine bA_ ?_ _)); refine blk_far ?_ NB539_547.out _; (with_reducible repeat (first | refine bN_ ?_ _ | refine bD_ ?_ | refine bA_ ?_ _)); exact BK539.out⟩, ⟨by (with_reducible repeat (first | refine bN_ ?_ _ | refine bD_ ?_ | refine bA_ ?_ _)); refine blk_put (cs := #[.slice none 0 0]) ?_ 0 _ rfl; (with_reducible repeat (first | refine bN_ ?_ _ | refine bD_ ?_ | refine bA_ ?_ _)); exact BK547.out⟩, ⟨gW_ HB.out⟩⟩
   ·replace c26 := Bool.eq_false_iff.mpr c26
    subst c26
    have H1 : (laws_FnSwap.j0 k t526 t529 t530 t535 t538 true t523 t532) = some r := by rw [if_neg (show ¬ (false = true) by decide)] at H; exact H
    clear H
    have H := H1
    clear H1
    have H' := aM_ H
    clear H
    obtain ⟨Ao29, co29, eo29⟩ := Kd.R_slice HO537.out
    subst eo29
    obtain ⟨Ao30, co30, eo30⟩ := Kd.R_slice HO545.out
    subst eo30
    go_wp2_with (first | ((with_reducible refine gate_callee (f := 25) rfl ?_); refine gL_ (some 46) Try.func25 #[.slice Ao29 t535.length co29, .slice Ao30 t543.length co30] ?_; (with_reducible refine (laws_sameInts.calls k _ _ t535 _ _ t543 false _ ?side1 ?side2 ?side3 ?side4 A25.out).mono ?_); (case side1 => refine (Kd.R_reads' (e := 3) (base := w.heap.size) (ok := fun k_ => ((True ∧ some k_ ≠ (.slice Ao12 t526.length co12 : Value).ownBlock) ∧ some k_ ≠ (.slice Ao30 t543.length co30 : Value).ownBlock)) (n := t535.length) (c := co29) ?_).2.2; exact (by (with_reducible repeat (first | apply rA_ | apply rN_ | apply rD_)); exact (Kd.R_mono (Kd.R_far (p := ⟨gb547, 0, none⟩) (Kd.R_types HO537.out BK547.out (by decide)) (fun _ hk => hk.2) (.slice Ao21 t540.length co21)) (fun _ h_ => h_.1)))); (case side2 => exact (Kd.R_reads' HO537.out).2.1); (case side3 => refine (Kd.R_reads' (e := 3) (base := w.heap.size) (ok := fun k_ => ((True ∧ some k_ ≠ (.slice Ao12 t526.length co12 : Value).ownBlock) ∧ some k_ ≠ (.slice Ao29 t535.length co29 : Value).ownBlock)) (n := t543.length) (c := co30) ?_).2.2; exact (by (with_reducible repeat (first | apply rA_ | apply rN_ | apply rD_)); exact (Kd.R_mono (Kd.R_far (p := ⟨gb547, 0, none⟩) (Kd.R_types HO545.out BK547.out (by decide)) (fun _ hk => hk.2) (.slice Ao21 t540.length co21)) (fun _ h_ => h_.1)))); (case side4 => exact (Kd.R_reads' HO545.out).2.1); rintro e w' ⟨rfl, ⟨nd, rfl⟩⟩; refine ⟨_, rfl, ?_⟩))
    go_meet
    case rel => exact ⟨_, (true), (by first | rfl | (simp; done) | (simp [*]; done)), H', ⟨by first | omega | exact Nat.le_refl _⟩, ⟨by (with_reducible repeat (first | apply qA_ | apply qN_ | apply qD_)); exact Kd.Q_mono (Kd.Q_far (p := ⟨gb547, 0, none⟩) (Kd.Q_types HO528.out BK547.out (by decide)) (fun _ hk => hk.2) (.slice Ao21 t540.length co21)) (fun _ hk => hk.1.1.2)⟩, ⟨by (with_reducible repeat (first | apply rA_ | apply rN_ | apply rD_)); exact Kd.R_mono (Kd.R_far (p := ⟨gb547, 0, none⟩) (Kd.R_types HO537.out BK547.out (by decide)) (fun _ hk => hk.2) (.slice Ao21 t540.length co21)) (fun _ hk => hk.1.1.2)⟩, ⟨by (with_reducible repeat (first | apply Kd.V_alloc | apply Kd.V_drewN | apply Kd.V_drew)); exact Kd.V_mono (Kd.V_far (p := ⟨gb547, 0, none⟩) (Kd.V_mono HO525.out (fun k_ hk => (⟨hk, hk.2⟩ : _ ∧ k_ ≠ gb547))) (fun _ hk => hk.2) (.slice Ao21 t540.length co21)) (fun _ hk => ⟨hk.1.1.1.1.1.1.1, ⟨hk.1.1.1.1.2, ⟨hk.1.1.1.1.1.2, ⟨hk.1.1.1.1.1.1.2, ⟨hk.1.1.1.2, hk.1.2⟩⟩⟩⟩⟩)⟩, ⟨by (with_reducible repeat (first | apply rA_ | apply rN_ | apply rD_)); exact Kd.R_mono (Kd.R_far (p := ⟨gb547, 0, none⟩) (Kd.R_types HO534.out BK547.out (by decide)) (fun _ hk => hk.2) (.slice Ao21 t540.length co21)) (fun _ hk => ⟨hk.1.1.2, hk.1.1.1⟩)⟩, ⟨by (with_reducible repeat (first | apply Kd.V_alloc | apply Kd.V_drewN | apply Kd.V_drew)); exact Kd.V_mono (Kd.V_far (p := ⟨gb547, 0, none⟩) (Kd.V_mono HO542.out (fun k_ hk => (⟨hk, hk.2⟩ : _ ∧ k_ ≠ gb547))) (fun _ hk => hk.2) (.slice Ao21 t540.length co21)) (fun _ hk => ⟨hk.1.1.2.1, ⟨hk.1.1.2.2.2.1, ⟨hk.1.1.2.2.1, ⟨hk.1.1.2.2.2.2.1, ⟨hk.1.1.2.2.2.2.2, hk.1.2⟩⟩⟩⟩⟩)⟩, ⟨by (with_reducible repeat (first | refine bN_ ?_ _ | refine bD_ ?_ | refine bA_ ?_ _)); refine blk_far ?_ NB531_547.out _; (with_reducible repeat (first | refine bN_ ?_ _ | refine bD_ ?_ | refine bA_ ?_ _)); exact BK531.out⟩, ⟨by (with_reducible repeat (first | refine bN_ ?_ _ | refine bD_ ?_ | refine bA_ ?_ _)); refine blk_far ?_ NB539_547.out _; (with_reducible repeat (first | refine bN_ ?_ _ | refine bD_ ?_ | refine bA_ ?_ _)); exact BK539.out⟩, ⟨by (with_reducible repeat (first | refine bN_ ?_ _ | refine bD_ ?_ | refine bA_ ?_ _)); refine blk_put (cs := #[.slice none 0 0]) ?_ 0 _ rfl; (with_reducible repeat (first | refine bN_ ?_ _ | refine bD_ ?_ | refine bA_ ?_ _)); exact BK547.out⟩, ⟨gW_ HB.out⟩⟩
  case rest =>
   clear HC7
   try clear c1
   try clear c2
   try clear p2
   try clear c3
   try clear c4
   try clear c9
   try clear c16
   try clear c18
   try clear c22
   try clear c23
   try clear c25
   try clear c26
   try clear hcz11_0 hfz11_0
   try clear hcz17_0 hfz17_0
   try clear hcz18_0 hfz18_0
   try clear hcz24_0 hfz24_0
   obtain ⟨kq, x52_6, rfl, HA, HJ6, HO_4, HO_8, HO_532000, HO_540000, HO_548000, BK531, BK539, BK547, HB⟩ := hcut
   cases kq with
   | zero => exact absurd HA.out (by simp [laws_FnSwap.j0])
   | succ kj6 =>
    have H := HA.out
    clear HA
    simp only [laws_FnSwap.j0] at H
    by_cases c31 : x52_6 = true
    ·subst c31
     have H1 : (some false) = some r := by rw [if_pos rfl] at H; exact H
     clear H
     have H := H1
     clear H1
     obtain rfl := Option.some.inj H
     go_wp2
     go_ret
     exact fI_ HB.out
    ·replace c31 := Bool.eq_false_iff.mpr c31
     subst c31
     have H1 : ((spec_MemoryOk.f kj6 t523).bind fun t549 => (if t549 = true then ((spec_ViewOk.f kj6 t523 t526).bind fun t550 => (if t550 = true then (if t529 < 0 then (laws_FnSwap.j1 kj6 t526 t529 t530 t535 t538 true t523 t532) else (laws_FnSwap.j1 kj6 t526 t529 t530 t535 t538 (decide (t529 ≥ 24)) t523 t532)) else (laws_FnSwap.j1 kj6 t526 t529 t530 t535 t538 true t523 t532))) else (laws_FnSwap.j1 kj6 t526 t529 t530 t535 t538 true t523 t532))) = some r := by rw [if_neg (show ¬ (false = true) by decide)] at H; exact H
     clear H
     have H := H1
     clear H1
     have HC32 := aM_ H
     clear H
     go_upto_region 8 with (fail)
     go_cut [69] (fun v69 wc => ∃ (kq : Nat) (x69_31 : Bool), v69 = .bool x69_31 ∧ Aside0 (laws_FnSwap.j1 kq t526 t529 t530 t535 t538 x69_31 t523 t532 = some r) ∧ Aside0 (kq ≤ kj6) ∧ Aside0 (Kd.Q (Kd.int .i64) 3 wc w.heap.size (fun k_ => some k_ ≠ (v536 : Value).ownBlock) (.slice Ao12 t526.length co12) t526) ∧ Aside0 (Kd.R (Kd.int .i64) 3 wc w.heap.size (fun k_ => some k_ ≠ ((.slice Ao12 t526.length co12) : Value).ownBlock) v536 t535) ∧ Aside0 (Kd.V (Kd.slice 43 k43) 44 wc w.heap.size (fun k_ => some k_ ≠ ((.slice Ao12 t526.length co12) : Value).ownBlock ∧ some k_ ≠ (v536 : Value).ownBlock ∧ some k_ ≠ ((.slice Ao15 t532.length co15) : Value).ownBlock ∧ k_ ≠ gb531 ∧ k_ ≠ gb539 ∧ k_ ≠ gb547) (.slice Ao10 t523.length co10) t523) ∧ Aside0 (Kd.R (Kd.slice 43 k43) 44 wc w.heap.size (fun k_ => some k_ ≠ ((.slice Ao12 t526.length co12) : Value).ownBlock ∧ some k_ ≠ (v536 : Value).ownBlock) (.slice Ao15 t532.length co15) t532) ∧ Aside0 (Kd.V (Kd.slice 43 k43) 44 wc w.heap.size (fun k_ => some k_ ≠ ((.slice Ao12 t526.length co12) : Value).ownBlock ∧ some k_ ≠ (v536 : Value).ownBlock ∧ some k_ ≠ ((.slice Ao15 t532.length co15) : Value).ownBlock ∧ k_ ≠ gb531 ∧ k_ ≠ gb539 ∧ k_ ≠ gb547) (.slice Ao21 t540.length co21) t540) ∧ Aside0 (wc.heap[gb531]? = some (.cells #[(.slice Ao10 t523.length co10)] 24 (0, 0))) ∧ Aside0 (wc.heap[gb539]? = some (.cells #[(.slice Ao15 t532.length co15)] 24 (0, 0))) ∧ Aside0 (wc.heap[gb547]? = some (.cells #[(.slice Ao21 t540.length co21)] 24 (0, 0))) ∧ Aside0 (Below w.heap.size w wc))
     case first =>
      have H := HC32.out
      clear HC32
      replace H := Option.bind_eq_some_iff.mp H
      obtain ⟨t549, A330, H⟩ := H
      replace H : (if t549 = true then ((spec_ViewOk.f kj6 t523 t526).bind fun t550 => (if t550 = true then (if t529 < 0 then (laws_FnSwap.j1 kj6 t526 t529 t530 t535 t538 true t523 t532) else (laws_FnSwap.j1 kj6 t526 t529 t530 t535 t538 (decide (t529 ≥ 24)) t523 t532)) else (laws_FnSwap.j1 kj6 t526 t529 t530 t535 t538 true t523 t532))) else (laws_FnSwap.j1 kj6 t526 t529 t530 t535 t538 true t523 t532)) = some r := H
      have A33 := aM_ A330
      clear A330
      by_cases c34 : t549 = true
      ·subst c34
       have H1 : ((spec_ViewOk.f kj6 t523 t526).bind fun t550 => (if t550 = true then (if t529 < 0 then (laws_FnSwap.j1 kj6 t526 t529 t530 t535 t538 true t523 t532) else (laws_FnSwap.j1 kj6 t526 t529 t530 t535 t538 (decide (t529 ≥ 24)) t523 t532)) else (laws_FnSwap.j1 kj6 t526 t529 t530 t535 t538 true t523 t532))) = some r := by rw [if_pos rfl] at H; exact H
       clear H
       have H := H1
       clear H1
       replace H := Option.bind_eq_some_iff.mp H
       obtain ⟨t550, A350, H⟩ := H
       replace H : (if t550 = true then (if t529 < 0 then (laws_FnSwap.j1 kj6 t526 t529 t530 t535 t538 true t523 t532) else (laws_FnSwap.j1 kj6 t526 t529 t530 t535 t538 (decide (t529 ≥ 24)) t523 t532)) else (laws_FnSwap.j1 kj6 t526 t529 t530 t535 t538 true t523 t532)) = some r := H
       have A35 := aM_ A350
       clear A350
       by_cases c36 : t550 = true
       ·subst c36
        have H1 : (if t529 < 0 then (laws_FnSwap.j1 kj6 t526 t529 t530 t535 t538 true t523 t532) else (laws_FnSwap.j1 kj6 t526 t529 t530 t535 t538 (decide (t529 ≥ 24)) t523 t532)) = some r := by rw [if_pos rfl] at H; exact H
        clear H
        have H := H1
        clear H1
        by_cases c37 : t529 < 0
        ·rw [if_pos c37] at H
         have c37b0 : decide (t529 < 0) = true := decide_eq_true c37
         clear c37
         (first | rw [c37b0] | (simp only [i64_w, i32_w]; rw [c37b0]) | skip)
         have H' := aM_ H
         clear H
         have hnb38 := NB531_539.out
         have hnc38 := NB539_531.out
         have hnb39 := NB531_547.out
         have hnc39 := NB547_531.out
         have hcz40_0 : wc.cell? ⟨gb531, 0, none⟩ = some (.slice Ao10 t523.length co10) := (blk_cell BK531.out 0).trans rfl
         have hfz40_0 := blk_frozen BK531.out 0
         go_wp2_with (first | ((with_reducible refine gate_callee (f := 27) rfl ?_); refine gL_ (some 54) Try.func27 #[.agg #[.slice Ao10 t523.length co10]] ?_; (with_reducible refine (spec_MemoryOk.calls kj6 _ _ t523 true _ ?side1 ?side2 A33.out).mono ?_); (case side1 => exact cS_ (Kd.V_reads' HO_532000.out).2.2); (case side2 => exact (Kd.V_reads' HO_532000.out).2.1); rintro e w41 ⟨rfl, hb⟩; refine ⟨_, rfl, ?_⟩; have n0 := aM_ (bQ_ HO_4.out hb); have n1 := aM_ (bR_ HO_8.out hb); have n2 := aM_ (Kd.V_below (by (with_reducible repeat (first | apply Kd.V_alloc | apply Kd.V_drewN | apply Kd.V_drew)); exact HO_532000.out) hb); have n3 := aM_ (bR_ HO_540000.out hb); have n4 := aM_ (Kd.V_below (by (with_reducible repeat (first | apply Kd.V_alloc | apply Kd.V_drewN | apply Kd.V_drew)); exact HO_548000.out) hb); have n5 := aM_ (nB_ BK531.out hb); have n6 := aM_ (nB_ BK539.out hb); have n7 := aM_ (nB_ BK547.out hb); have n8 := aM_ (sT_ HB.out hb); clear HO_4; clear HO_8; clear HO_532000; clear HO_540000; clear HO_548000; clear BK531; clear BK539; clear BK547; clear HB; have HO_4 := n0; have HO_8 := n1; have HO_532000 := n2; have HO_540000 := n3; have HO_548000 := n4; have BK531 := n5; have BK539 := n6; have BK547 := n7; have HB := n8; clear n0 n1 n2 n3 n4 n5 n6 n7 n8; have hcz42_0 : w41.cell? ⟨gb531, 0, none⟩ = some (.slice Ao10 t523.length co10) := (blk_cell BK531.out 0).trans rfl; have hfz42_0 := blk_frozen BK531.out 0) | (go_at_call 29; (with_reducible refine (spec_ViewOk.calls kj6 _ _ t523 _ _ t526 true _ ?side1 ?side2 ?side3 ?side4 A35.out).mono ?_); (case side1 => exact cS_ (Kd.V_reads' HO_532000.out).2.2); (case side2 => exact (Kd.V_reads' HO_532000.out).2.1); (case side3 => exact cS_ (Kd.Q_reads' HO_4.out).2.2); (case side4 => exact (Kd.Q_reads' HO_4.out).2.1); rintro e w43 ⟨rfl, hb⟩; have n0 := aM_ (bQ_ HO_4.out hb); have n1 := aM_ (bR_ HO_8.out hb); have n2 := aM_ (Kd.V_below (by (with_reducible repeat (first | apply Kd.V_alloc | apply Kd.V_drewN | apply Kd.V_drew)); exact HO_532000.out) hb); have n3 := aM_ (bR_ HO_540000.out hb); have n4 := aM_ (Kd.V_below (by (with_reducible repeat (first | apply Kd.V_alloc | apply Kd.V_drewN | apply Kd.V_drew)); exact HO_548000.out) hb); have n5 := aM_ (nB_ BK531.out hb); have n6 := aM_ (nB_ BK539.out hb); have n7 := aM_ (nB_ BK547.out hb); have n8 := aM_ (sT_ HB.out hb); clear HO_4; clear HO_8; clear HO_532000; clear HO_540000; clear HO_548000; clear BK531; clear BK539; clear BK547; clear HB; have HO_4 := n0; have HO_8 := n1; have HO_532000 := n2; have HO_540000 := n3; have HO_548000 := n4; have BK531 := n5; have BK539 := n6; have BK547 := n7; have HB := n8; clear n0 n1 n2 n3 n4 n5 n6 n7 n8))
         go_meet
         case rel => exact ⟨_, (true), (by first | rfl | (simp; done) | (simp [*]; done)), H', ⟨by have := HJ6.out; first | omega | exact Nat.le_refl _⟩, ⟨by (with_reducible repeat (first | apply qA_ | apply qN_ | apply qD_)); exact HO_4.out⟩, ⟨by (with_reducible repeat (first | apply rA_ | apply rN_ | apply rD_)); exact HO_8.out⟩, ⟨by (with_reducible repeat (first | apply Kd.V_alloc | apply Kd.V_drewN | apply Kd.V_drew)); exact HO_532000.out⟩, ⟨by (with_reducible repeat (first | apply rA_ | apply rN_ | apply rD_)); exact HO_540000.out⟩, ⟨by (with_reducible repeat (first | apply Kd.V_alloc | apply Kd.V_drewN | apply Kd.V_drew)); exact HO_548000.out⟩, ⟨rW_ BK531.out⟩, ⟨rW_ BK539.out⟩, ⟨rW_ BK547.out⟩, ⟨gW_ HB.out⟩⟩
        ·rw [if_neg c37] at H
         have c37b0 : decide (t529 < 0) = false := decide_eq_false c37
         clear c37
         (first | rw [c37b0] | (simp only [i64_w, i32_w]; rw [c37b0]) | skip)
         have H' := aM_ H
         clear H
         have hnb44 := NB531_539.out
         have hnc44 := NB539_531.out
         have hnb45 := NB531_547.out
         have hnc45 := NB547_531.out
         have hcz46_0 : wc.cell? ⟨gb531, 0, none⟩ = some (.slice Ao10 t523.length co10) := (blk_cell BK531.out 0).trans rfl
         have hfz46_0 := blk_frozen BK531.out 0
         go_wp2_with (first | ((with_reducible refine gate_callee (f := 27) rfl ?_); refine gL_ (some 54) Try.func27 #[.agg #[.slice Ao10 t523.length co10]] ?_; (with_reducible refine (spec_MemoryOk.calls kj6 _ _ t523 true _ ?side1 ?side2 A33.out).mono ?_); (case side1 => exact cS_ (Kd.V_reads' HO_532000.out).2.2); (case side2 => exact (Kd.V_reads' HO_532000.out).2.1); rintro e w47 ⟨rfl, hb⟩; refine ⟨_, rfl, ?_⟩; have n0 := aM_ (bQ_ HO_4.out hb); have n1 := aM_ (bR_ HO_8.out hb); have n2 := aM_ (Kd.V_below (by (with_reducible repeat (first | apply Kd.V_alloc | apply Kd.V_drewN | apply Kd.V_drew)); exact HO_532000.out) hb); have n3 := aM_ (bR_ HO_540000.out hb); have n4 := aM_ (Kd.V_below (by (with_reducible repeat (first | apply Kd.V_alloc | apply Kd.V_drewN | apply Kd.V_drew)); exact HO_548000.out) hb); have n5 := aM_ (nB_ BK531.out hb); have n6 := aM_ (nB_ BK539.out hb); have n7 := aM_ (nB_ BK547.out hb); have n8 := aM_ (sT_ HB.out hb); clear HO_4; clear HO_8; clear HO_532000; clear HO_540000; clear HO_548000; clear BK531; clear BK539; clear BK547; clear HB; have HO_4 := n0; have HO_8 := n1; have HO_532000 := n2; have HO_540000 := n3; have HO_548000 := n4; have BK531 := n5; have BK539 := n6; have BK547 := n7; have HB := n8; clear n0 n1 n2 n3 n4 n5 n6 n7 n8; have hcz48_0 : w47.cell? ⟨gb531, 0, none⟩ = some (.slice Ao10 t523.length co10) := (blk_cell BK531.out 0).trans rfl; have hfz48_0 := blk_frozen BK531.out 0) | (go_at_call 29; (with_reducible refine (spec_ViewOk.calls kj6 _ _ t523 _ _ t526 true _ ?side1 ?side2 ?side3 ?side4 A35.out).mono ?_); (case side1 => exact cS_ (Kd.V_reads' HO_532000.out).2.2); (case side2 => exact (Kd.V_reads' HO_532000.out).2.1); (case side3 => exact cS_ (Kd.Q_reads' HO_4.out).2.2); (case side4 => exact (Kd.Q_reads' HO_4.out).2.1); rintro e w49 ⟨rfl, hb⟩; have n0 := aM_ (bQ_ HO_4.out hb); have n1 := aM_ (bR_ HO_8.out hb); have n2 := aM_ (Kd.V_below (by (with_reducible repeat (first | apply Kd.V_alloc | apply Kd.V_drewN | apply Kd.V_drew)); exact HO_532000.out) hb); have n3 := aM_ (bR_ HO_540000.out hb); have n4 := aM_ (Kd.V_below (by (with_reducible repeat (first | apply Kd.V_alloc | apply Kd.V_drewN | apply Kd.V_drew)); exact HO_548000.out) hb); have n5 := aM_ (nB_ BK531.out hb); have n6 := aM_ (nB_ BK539.out hb); have n7 := aM_ (nB_ BK547.out hb); have n8 := aM_ (sT_ HB.out hb); clear HO_4; clear HO_8; clear HO_532000; clear HO_540000; clear HO_548000; clear BK531; clear BK539; clear BK547; clear HB; have HO_4 := n0; have HO_8 := n1; have HO_532000 := n2; have HO_540000 := n3; have HO_548000 := n4; have BK531 := n5; have BK539 := n6; have BK547 := n7; have HB := n8; clear n0 n1 n2 n3 n4 n5 n6 n7 n8))
         go_meet
         case rel => exact ⟨_, (decide (t529 ≥ 24)), (by first | rfl | (simp; done) | (simp [*]; done)), H', ⟨by have := HJ6.out; first | omega | exact Nat.le_refl _⟩, ⟨by (with_reducible repeat (first | apply qA_ | apply qN_ | apply qD_)); exact HO_4.out⟩, ⟨by (with_reducible repeat (first | apply rA_ | apply rN_ | apply rD_)); exact HO_8.out⟩, ⟨by (with_reducible repeat (first | apply Kd.V_alloc | apply Kd.V_drewN | apply Kd.V_drew)); exact HO_532000.out⟩, ⟨by (with_reducible repeat (first | apply rA_ | apply rN_ | apply rD_)); exact HO_540000.out⟩, ⟨by (with_reducible repeat (first | apply Kd.V_alloc | apply Kd.V_drewN | apply Kd.V_drew)); exact HO_548000.out⟩, ⟨rW_ BK531.out⟩, ⟨rW_ BK539.out⟩, ⟨rW_ BK547.out⟩, ⟨gW_ HB.out⟩⟩
       ·replace c36 := Bool.eq_false_iff.mpr c36
        subst c36
        have H1 : (laws_FnSwap.j1 kj6 t526 t529 t530 t535 t538 true t523 t532) = some r := by rw [if_neg (show ¬ (false = true) by decide)] at H; exact H
        clear H
        have H := H1
        clear H1
        have H' := aM_ H
        clear H
        have hnb50 := NB531_539.out
        have hnc50 := NB539_531.out
        have hnb51 := NB531_547.out
        have hnc51 := NB547_531.out
        have hcz52_0 : wc.cell? ⟨gb531, 0, none⟩ = some (.slice Ao10 t523.length co10) := (blk_cell BK531.out 0).trans rfl
        have hfz52_0 := blk_frozen BK531.out 0
        go_wp2_with (first | ((with_reducible refine gate_callee (f := 27) rfl ?_); refine gL_ (some 54) Try.func27 #[.agg #[.slice Ao10 t523.length co10]] ?_; (with_reducible refine (spec_MemoryOk.calls kj6 _ _ t523 true _ ?side1 ?side2 A33.out).mono ?_); (case side1 => exact cS_ (Kd.V_reads' HO_532000.out).2.2); (case side2 => exact (Kd.V_reads' HO_532000.out).2.1); rintro e w53 ⟨rfl, hb⟩; refine ⟨_, rfl, ?_⟩; have n0 := aM_ (bQ_ HO_4.out hb); have n1 := aM_ (bR_ HO_8.out hb); have n2 := aM_ (Kd.V_below (by (with_reducible repeat (first | apply Kd.V_alloc | apply Kd.V_drewN | apply Kd.V_drew)); exact HO_532000.out) hb); have n3 := aM_ (bR_ HO_540000.out hb); have n4 := aM_ (Kd.V_below (by (with_reducible repeat (first | apply Kd.V_alloc | apply Kd.V_drewN | apply Kd.V_drew)); exact HO_548000.out) hb); have n5 := aM_ (nB_ BK531.out hb); have n6 := aM_ (nB_ BK539.out hb); have n7 := aM_ (nB_ BK547.out hb); have n8 := aM_ (sT_ HB.out hb); clear HO_4; clear HO_8; clear HO_532000; clear HO_540000; clear HO_548000; clear BK531; clear BK539; clear BK547; clear HB; have HO_4 := n0; have HO_8 := n1; have HO_532000 := n2; have HO_540000 := n3; have HO_548000 := n4; have BK531 := n5; have BK539 := n6; have BK547 := n7; have HB := n8; clear n0 n1 n2 n3 n4 n5 n6 n7 n8; have hcz54_0 : w53.cell? ⟨gb531, 0, none⟩ = some (.slice Ao10 t523.length co10) := (blk_cell BK531.out 0).trans rfl; have hfz54_0 := blk_frozen BK531.out 0) | (go_at_call 29; (with_reducible refine (spec_ViewOk.calls kj6 _ _ t523 _ _ t526 false _ ?side1 ?side2 ?side3 ?side4 A35.out).mono ?_); (case side1 => exact cS_ (Kd.V_reads' HO_532000.out).2.2); (case side2 => exact (Kd.V_reads' HO_532000.out).2.1); (case side3 => exact cS_ (Kd.Q_reads' HO_4.out).2.2); (case side4 => exact (Kd.Q_reads' HO_4.out).2.1); rintro e w55 ⟨rfl, hb⟩; have n0 := aM_ (bQ_ HO_4.out hb); have n1 := aM_ (bR_ HO_8.out hb); have n2 := aM_ (Kd.V_below (by (with_reducible repeat (first | apply Kd.V_alloc | apply Kd.V_drewN | apply Kd.V_drew)); exact HO_532000.out) hb); have n3 := aM_ (bR_ HO_540000.out hb); have n4 := aM_ (Kd.V_below (by (with_reducible repeat (first | apply Kd.V_alloc | apply Kd.V_drewN | apply Kd.V_drew)); exact HO_548000.out) hb); have n5 := aM_ (nB_ BK531.out hb); have n6 := aM_ (nB_ BK539.out hb); have n7 := aM_ (nB_ BK547.out hb); have n8 := aM_ (sT_ HB.out hb); clear HO_4; clear HO_8; clear HO_532000; clear HO_540000; clear HO_548000; clear BK531; clear BK539; clear BK547; clear HB; have HO_4 := n0; have HO_8 := n1; have HO_532000 := n2; have HO_540000 := n3; have HO_548000 := n4; have BK531 := n5; have BK539 := n6; have BK547 := n7; have HB := n8; clear n0 n1 n2 n3 n4 n5 n6 n7 n8))
        go_meet
        case rel => exact ⟨_, (true), (by first | rfl | (simp; done) | (simp [*]; done)), H', ⟨by have := HJ6.out; first | omega | exact Nat.le_refl _⟩, ⟨by (with_reducible repeat (first | apply qA_ | apply qN_ | apply qD_)); exact HO_4.out⟩, ⟨by (with_reducible repeat (first | apply rA_ | apply rN_ | apply rD_)); exact HO_8.out⟩, ⟨by (with_reducible repeat (first | apply Kd.V_alloc | apply Kd.V_drewN | apply Kd.V_drew)); exact HO_532000.out⟩, ⟨by (with_reducible repeat (first | apply rA_ | apply rN_ | apply rD_)); exact HO_540000.out⟩, ⟨by (with_reducible repeat (first | apply Kd.V_alloc | apply Kd.V_drewN | apply Kd.V_drew)); exact HO_548000.out⟩, ⟨rW_ BK531.out⟩, ⟨rW_ BK539.out⟩, ⟨rW_ BK547.out⟩, ⟨gW_ HB.out⟩⟩
      ·replace c34 := Bool.eq_false_iff.mpr c34
       subst c34
       have H1 : (laws_FnSwap.j1 kj6 t526 t529 t530 t535 t538 true t523 t532) = some r := by rw [if_neg (show ¬ (false = true) by decide)] at H; exact H
       clear H
       have H := H1
       clear H1
       have H' := aM_ H
       clear H
       have hnb56 := NB531_539.out
       have hnc56 := NB539_531.out
       have hnb57 := NB531_547.out
       have hnc57 := NB547_531.out
       have hcz58_0 : wc.cell? ⟨gb531, 0, none⟩ = some (.slice Ao10 t523.length co10) := (blk_cell BK531.out 0).trans rfl
       have hfz58_0 := blk_frozen BK531.out 0
       go_wp2_with (first | ((with_reducible refine gate_callee (f := 27) rfl ?_); refine gL_ (some 54) Try.func27 #[.agg #[.slice Ao10 t523.length co10]] ?_; (with_reducible refine (spec_MemoryOk.calls kj6 _ _ t523 false _ ?side1 ?side2 A33.out).mono ?_); (case side1 => exact cS_ (Kd.V_reads' HO_532000.out).2.2); (case side2 => exact (Kd.V_reads' HO_532000.out).2.1); rintro e w59 ⟨rfl, hb⟩; refine ⟨_, rfl, ?_⟩; have n0 := aM_ (bQ_ HO_4.out hb); have n1 := aM_ (bR_ HO_8.out hb); have n2 := aM_ (Kd.V_below (by (with_reducible repeat (first | apply Kd.V_alloc | apply Kd.V_drewN | apply Kd.V_drew)); exact HO_532000.out) hb); have n3 := aM_ (bR_ HO_540000.out hb); have n4 := aM_ (Kd.V_below (by (with_reducible repeat (first | apply Kd.V_alloc | apply Kd.V_drewN | apply Kd.V_drew)); exact HO_548000.out) hb); have n5 := aM_ (nB_ BK531.out hb); have n6 := aM_ (nB_ BK539.out hb); have n7 := aM_ (nB_ BK547.out hb); have n8 := aM_ (sT_ HB.out hb); clear HO_4; clear HO_8; clear HO_532000; clear HO_540000; clear HO_548000; clear BK531; clear BK539; clear BK547; clear HB; have HO_4 := n0; have HO_8 := n1; have HO_532000 := n2; have HO_540000 := n3; have HO_548000 := n4; have BK531 := n5; have BK539 := n6; have BK547 := n7; have HB := n8; clear n0 n1 n2 n3 n4 n5 n6 n7 n8))
       go_meet
       case rel => exact ⟨_, (true), (by first | rfl | (simp; done) | (simp [*]; done)), H', ⟨by have := HJ6.out; first | omega | exact Nat.le_refl _⟩, ⟨by (with_reducible repeat (first | apply qA_ | apply qN_ | apply qD_)); exact HO_4.out⟩, ⟨by (with_reducible repeat (first | apply rA_ | apply rN_ | apply rD_)); exact HO_8.out⟩, ⟨by (with_reducible repeat (first | apply Kd.V_alloc | apply Kd.V_drewN | apply Kd.V_drew)); exact HO_532000.out⟩, ⟨by (with_reducible repeat (first | apply rA_ | apply rN_ | apply rD_)); exact HO_540000.out⟩, ⟨by (with_reducible repeat (first | apply Kd.V_alloc | apply Kd.V_drewN | apply Kd.V_drew)); exact HO_548000.out⟩, ⟨rW_ BK531.out⟩, ⟨rW_ BK539.out⟩, ⟨rW_ BK547.out⟩, ⟨gW_ HB.out⟩⟩
     case rest =>
      clear HC32
      try clear c1
      try clear c2
      try clear p2
      try clear c3
      try clear c4
      try clear c5
      try clear c9
      try clear c16
      try clear c18
      try clear c22
      try clear c23
      try clear c25
      try clear c26
      try clear c27
      try clear c31
      try clear c34
      try clear c36
      try clear c37
      try clear c37b0
      try clear c38
      try clear c39
      try clear c44
      try clear c45
      try clear c46
      try clear c50
      try clear c51
      try clear c56
      try clear c57
      try clear hcz11_0 hfz11_0
      try clear hcz17_0 hfz17_0
      try clear hcz18_0 hfz18_0
      try clear hcz24_0 hfz24_0
      try clear hcz40_0 hfz40_0
      try clear hcz42_0 hfz42_0
      try clear hcz46_0 hfz46_0
      try clear hcz48_0 hfz48_0
      try clear hcz52_0 hfz52_0
      try clear hcz54_0 hfz54_0
      try clear hcz58_0 hfz58_0
      try clear p2
      obtain ⟨kq, x69_31, rfl, HA, HJ31, HO_4, HO_8, HO_532000, HO_540000, HO_548000, BK531, BK539, BK547, HB⟩ := hcut
      cases kq with
      | zero => exact absurd HA.out (by simp [laws_FnSwap.j1])
      | succ kj31 =>
       have H := HA.out
       clear HA
       simp only [laws_FnSwap.j1] at H
       by_cases c60 : x69_31 = true
       ·subst c60
        have H1 : (if t538 = 0 then ((laws_sameInts.f kj31 t535 t526).bind fun t551 => (some t551)) else (some false)) = some r := by rw [if_pos rfl] at H; exact H
        clear H
        have H := H1
        clear H1
        by_cases c61 : t538 = 0
        ·rw [if_pos c61] at H
         have c61b0 : (t538 == 0) = true := beq_iff_eq.mpr c61
         have c61b1 : (t538 != 0) = false := bne_eq_false_iff_eq.mpr c61
         clear c61
         replace H := Option.bind_eq_some_iff.mp H
         obtain ⟨t551, A620, H⟩ := H
         replace H : (some t551) = some r := H
         have A62 := aM_ A620
         clear A620
         obtain rfl := Option.some.inj H
         obtain ⟨Ao63, co63, eo63⟩ := Kd.R_slice HO_8.out
         subst eo63
         go_wp2_with (first | (go_at_call 25; (with_reducible refine (laws_sameInts.calls kj31 _ _ t535 _ _ t526 t551 _ ?side1 ?side2 ?side3 ?side4 A62.out).mono ?_); (case side1 => exact cS_ (Kd.R_reads' HO_8.out).2.2); (case side2 => exact (Kd.R_reads' HO_8.out).2.1); (case side3 => exact cS_ (Kd.Q_reads' HO_4.out).2.2); (case side4 => exact (Kd.Q_reads' HO_4.out).2.1); rintro e w' ⟨rfl, ⟨nd, rfl⟩⟩))
         go_ret
         exact fI_ HB.out
        ·rw [if_neg c61] at H
         have c61b0 : (t538 == 0) = false := beq_eq_false_iff_ne.mpr c61
         have c61b1 : (t538 != 0) = true := bne_iff_ne.mpr c61
         obtain rfl := Option.some.inj H
         go_wp2
         go_ret
         exact fI_ HB.out
       ·replace c60 := Bool.eq_false_iff.mpr c60
        subst c60
        have H1 : ((impl_Load.f kj31 t523 t526 t529 0 false).bind fun bt552 => ((impl_Load.f kj31 t532 t535 t529 0 false).bind fun bt556 => (if bt552.1 = t538 then (if bt556.1 = t530 then ((impl_Knows.f kj31 t535 t526).bind fun t560 => (if t560 = true then ((impl_MemoryOk.f kj31 t532).bind fun t561 => (some t561)) else (some false))) else (some false)) else (some false)))) = some r := by rw [if_neg (show ¬ (false = true) by decide)] at H; exact H
        clear H
        have H := H1
        clear H1
        replace H := Option.bind_eq_some_iff.mp H
        obtain ⟨⟨t552, t553⟩, A640, H⟩ := H
        replace H : ((impl_Load.f kj31 t532 t535 t529 0 false).bind fun bt556 => (if t552 = t538 then (if bt556.1 = t530 then ((impl_Knows.f kj31 t535 t526).bind fun t560 => (if t560 = true then ((impl_MemoryOk.f kj31 t532).bind fun t561 => (some t561)) else (some false))) else (some false)) else (some false))) = some r := H
        have A64 := aM_ A640
        clear A640
        replace H := Option.bind_eq_some_iff.mp H
        obtain ⟨⟨t556, t557⟩, A650, H⟩ := H
        replace H : (if t552 = t538 then (if t556 = t530 then ((impl_Knows.f kj31 t535 t526).bind fun t560 => (if t560 = true then ((impl_MemoryOk.f kj31 t532).bind fun t561 => (some t561)) else (some false))) else (some false)) else (some false)) = some r := H
        have A65 := aM_ A650
        clear A650
        by_cases c66 : t552 = t538
        ·rw [if_pos c66] at H
         have c66b0 : (t552 == t538) = true := beq_iff_eq.mpr c66
         have c66b1 : (t552 != t538) = false := bne_eq_false_iff_eq.mpr c66
         clear c66
         by_cases c67 : t556 = t530
         ·rw [if_pos c67] at H
          have c67b0 : (t556 == t530) = true := beq_iff_eq.mpr c67
          have c67b1 : (t556 != t530) = false := bne_eq_false_iff_eq.mpr c67
          clear c67
          replace H := Option.bind_eq_some_iff.mp H
          obtain ⟨t560, A680, H⟩ := H
          replace H : (if t560 = true then ((impl_MemoryOk.f kj31 t532).bind fun t561 => (some t561)) else (some false)) = some r := H
          have A68 := aM_ A680
          clear A680
          by_cases c69 : t560 = true
          ·subst c69
           have H1 : ((impl_MemoryOk.f kj31 t532).bind fun t561 => (some t561)) = some r := by rw [if_pos rfl] at H; exact H
           clear H
           have H := H1
           clear H1
           replace H := Option.bind_eq_some_iff.mp H
           obtain ⟨t561, A700, H⟩ := H
           replace H : (some t561) = some r := H
           have A70 := aM_ A700
           clear A700
           obtain rfl := Option.some.inj H
           have hnb71 := NB531_539.out
           have hnc71 := NB539_531.out
           have hnb72 := NB531_547.out
           have hnc72 := NB547_531.out
           have hcz73_0 : wc.cell? ⟨gb531, 0, none⟩ = some (.slice Ao10 t523.length co10) := (blk_cell BK531.out 0).trans rfl
           have hfz73_0 := blk_frozen BK531.out 0
           go_wp2_with (first | ((with_reducible refine gate_callee (f := 21) rfl ?_); refine gL_ (some 81) Try.func21 #[.agg #[.slice Ao10 t523.length co10], .slice Ao12 t526.length co12, .int .i64 t529, .int .i64 0, .bool false] ?_; (with_reducible refine (impl_Load.calls kj31 _ _ t523 _ _ t526 t529 0 false t552 t553 _ ?side1 ?side2 ?side3 ?side4 A64.out).mono ?_); (case side1 => exact cS_ (Kd.V_reads' HO_532000.out).2.2); (case side2 => exact (Kd.V_reads' HO_532000.out).2.1); (case side3 => exact cS_ (Kd.Q_reads' HO_4.out).2.2); (case side4 => exact (Kd.Q_reads' HO_4.out).2.1); rintro e w74 ⟨v554, rfl, ho0, hb⟩; refine ⟨_, rfl, ?_⟩; have n0 := aM_ (Kd.Q_elder' (by (with_reducible repeat (first | apply qA_ | apply qN_ | apply qD_)); exact HO_4.out) (Kd.R_base ho0) hb); have n1 := aM_ (Kd.R_elder' (by (with_reducible repeat (first | apply rA_ | apply rN_ | apply rD_)); exact HO_8.out) (Kd.R_base ho0) hb); have n2 := aM_ (Kd.V_elder' (by (with_reducible repeat (first | apply Kd.V_alloc | apply Kd.V_drewN | apply Kd.V_drew)); exact HO_532000.out) (Kd.R_base ho0) hb); have n3 := aM_ (Kd.R_elder' (by (with_reducible repeat (first | apply rA_ | apply rN_ | apply rD_)); exact HO_540000.out) (Kd.R_base ho0) hb); have n4 := aM_ (Kd.V_elder' (by (with_reducible repeat (first | apply Kd.V_alloc | apply Kd.V_drewN | apply Kd.V_drew)); exact HO_548000.out) (Kd.R_base ho0) hb); have n5 := aM_ (Kd.R_lower (Kd.R_new' (Kd.R_new' ho0 (Kd.Q_lt (by (with_reducible repeat (first | apply qA_ | apply qN_ | apply qD_)); exact HO_4.out))) (Kd.R_lt (by (with_reducible repeat (first | apply rA_ | apply rN_ | apply rD_)); exact HO_8.out))) (below_size (gB_ HB.out))); have n6 := aM_ (nB_ BK531.out hb); have n7 := aM_ (nB_ BK539.out hb); have n8 := aM_ (nB_ BK547.out hb); have n9 := aM_ (sT_ HB.out hb); clear HO_4; clear HO_8; clear HO_532000; clear HO_540000; clear HO_548000; clear BK531; clear BK539; clear BK547; clear HB; have HO_4 := n0; have HO_8 := n1; have HO_532000 := n2; have HO_540000 := n3; have HO_548000 := n4; have HO555 := n5; have BK531 := n6; have BK539 := n7; have BK547 := n8; have HB := n9; clear n0 n1 n2 n3 n4 n5 n6 n7 n8 n9; (try clear ho0); have hnb75 := NB539_547.out; have hnc75 := NB547_539.out; have hcz76_0 : w74.cell? ⟨gb539, 0, none⟩ = some (.slice Ao15 t532.length co15) := (blk_cell BK539.out 0).trans rfl; have hfz76_0 := blk_frozen BK539.out 0; obtain ⟨Ao77, co77, eo77⟩ := Kd.R_slice HO_8.out; subst eo77) | ((with_reducible refine gate_callee (f := 21) rfl ?_); refine gL_ (some 88) Try.func21 #[.agg #[.slice Ao15 t532.length co15], .slice Ao77 t535.length co77, .int .i64 t529, .int .i64 0, .bool false] ?_; (with_reducible refine (impl_Load.calls kj31 _ _ t532 _ _ t535 t529 0 false t556 t557 _ ?side1 ?side2 ?side3 ?side4 A65.out).mono ?_); (case side1 => exact cS_ (Kd.R_reads' HO_540000.out).2.2); (case side2 => exact (Kd.R_reads' HO_540000.out).2.1); (case side3 => exact cS_ (Kd.R_reads' HO_8.out).2.2); (case side4 => exact (Kd.R_reads' HO_8.out).2.1); rintro e w78 ⟨v558, rfl, ho0, hb⟩; refine ⟨_, rfl, ?_⟩; have n0 := aM_ (Kd.Q_elder' (by (with_reducible repeat (first | apply qA_ | apply qN_ | apply qD_)); exact HO_4.out) (Kd.R_base ho0) hb); have n1 := aM_ (Kd.R_elder' (by (with_reducible repeat (first | apply rA_ | apply rN_ | apply rD_)); exact HO_8.out) (Kd.R_base ho0) hb); have n2 := aM_ (Kd.V_elder' (by (with_reducible repeat (first | apply Kd.V_alloc | apply Kd.V_drewN | apply Kd.V_drew)); exact HO_532000.out) (Kd.R_base ho0) hb); have n3 := aM_ (Kd.R_elder' (by (with_reducible repeat (first | apply rA_ | apply rN_ | apply rD_)); exact HO_540000.out) (Kd.R_base ho0) hb); have n4 := aM_ (Kd.V_elder' (by (with_reducible repeat (first | apply Kd.V_alloc | apply Kd.V_drewN | apply Kd.V_drew)); exact HO_548000.out) (Kd.R_base ho0) hb); have n5 := aM_ (Kd.R_elder' (by (with_reducible repeat (first | apply rA_ | apply rN_ | apply rD_)); exact HO555.out) (Kd.R_base ho0) hb); have n6 := aM_ (Kd.R_lower (Kd.R_new' (Kd.R_new' (Kd.R_new' ho0 (Kd.Q_lt (by (with_reducible repeat (first | apply qA_ | apply qN_ | apply qD_)); exact HO_4.out))) (Kd.R_lt (by (with_reducible repeat (first | apply rA_ | apply rN_ | apply rD_)); exact HO_8.out))) (Kd.R_lt (by (with_reducible repeat (first | apply rA_ | apply rN_ | apply rD_)); exact HO555.out))) (below_size (gB_ HB.out))); have n7 := aM_ (nB_ BK531.out hb); have n8 := aM_ (nB_ BK539.out hb); have n9 := aM_ (nB_ BK547.out hb); have n10 := aM_ (sT_ HB.out hb); clear HO_4; clear HO_8; clear HO_532000; clear HO_540000; clear HO_548000; clear HO555; clear BK531; clear BK539; clear BK547; clear HB; have HO_4 := n0; have HO_8 := n1; have HO_532000 := n2; have HO_540000 := n3; have HO_548000 := n4; have HO555 := n5; have HO559 := n6; have BK531 := n7; have BK539 := n8; have BK547 := n9; have HB := n10; clear n0 n1 n2 n3 n4 n5 n6 n7 n8 n9 n10; (try clear ho0)) | (go_at_call 23; (with_reducible refine (impl_Knows.calls kj31 _ _ t535 _ _ t526 true _ ?side1 ?side2 ?side3 ?side4 A68.out).mono ?_); (case side1 => exact cS_ (Kd.R_reads' HO_8.out).2.2); (case side2 => exact (Kd.R_reads' HO_8.out).2.1); (case side3 => exact cS_ (Kd.Q_reads' HO_4.out).2.2); (case side4 => exact (Kd.Q_reads' HO_4.out).2.1); rintro e w' ⟨rfl, ⟨nd, rfl⟩⟩; have hcz79_0 : w78.cell? ⟨gb539, 0, none⟩ = some (.slice Ao15 t532.length co15) := (blk_cell BK539.out 0).trans rfl; have hfz79_0 := blk_frozen BK539.out 0) | (go_at_call 26; (with_reducible refine (impl_MemoryOk.calls kj31 _ _ t532 t561 _ ?side1 ?side2 A70.out).mono ?_); (case side1 => exact cS_ (Kd.R_reads' HO_540000.out).2.2); (case side2 => exact (Kd.R_reads' HO_540000.out).2.1); rintro e w80 ⟨rfl, hb⟩; have n0 := aM_ (bQ_ HO_4.out hb); have n1 := aM_ (bR_ HO_8.out hb); have n2 := aM_ (Kd.V_below (by (with_reducible repeat (first | apply Kd.V_alloc | apply Kd.V_drewN | apply Kd.V_drew)); exact HO_532000.out) hb); have n3 := aM_ (bR_ HO_540000.out hb); have n4 := aM_ (Kd.V_below (by (with_reducible repeat (first | apply Kd.V_alloc | apply Kd.V_drewN | apply Kd.V_drew)); exact HO_548000.out) hb); have n5 := aM_ (bR_ HO555.out hb); have n6 := aM_ (bR_ HO559.out hb); have n7 := aM_ (nB_ BK531.out hb); have n8 := aM_ (nB_ BK539.out hb); have n9 := aM_ (nB_ BK547.out hb); have n10 := aM_ (sT_ HB.out hb); clear HO_4; clear HO_8; clear HO_532000; clear HO_540000; clear HO_548000; clear HO555; clear HO559; clear BK531; clear BK539; clear BK547; clear HB; have HO_4 := n0; have HO_8 := n1; have HO_532000 := n2; have HO_540000 := n3; have HO_548000 := n4; have HO555 := n5; have HO559 := n6; have BK531 := n7; have BK539 := n8; have BK547 := n9; have HB := n10; clear n0 n1 n2 n3 n4 n5 n6 n7 n8 n9 n10))
           go_ret
           exact fI_ HB.out
          ·replace c69 := Bool.eq_false_iff.mpr c69
           subst c69
           have H1 : (some false) = some r := by rw [if_neg (show ¬ (false = true) by decide)] at H; exact H
           clear H
           have H := H1
           clear H1
           obtain rfl := Option.some.inj H
           have hnb81 := NB531_539.out
           have hnc81 := NB539_531.out
           have hnb82 := NB531_547.out
           have hnc82 := NB547_531.out
           have hcz83_0 : wc.cell? ⟨gb531, 0, none⟩ = some (.slice Ao10 t523.length co10) := (blk_cell BK531.out 0).trans rfl
           have hfz83_0 := blk_frozen BK531.out 0
           go_wp2_with (first | ((with_reducible refine gate_callee (f := 21) rfl ?_); refine gL_ (some 81) Try.func21 #[.agg #[.slice Ao10 t523.length co10], .slice Ao12 t526.length co12, .int .i64 t529, .int .i64 0, .bool false] ?_; (with_reducible refine (impl_Load.calls kj31 _ _ t523 _ _ t526 t529 0 false t552 t553 _ ?side1 ?side2 ?side3 ?side4 A64.out).mono ?_); (case side1 => exact cS_ (Kd.V_reads' HO_532000.out).2.2); (case side2 => exact (Kd.V_reads' HO_532000.out).2.1); (case side3 => exact cS_ (Kd.Q_reads' HO_4.out).2.2); (case side4 => exact (Kd.Q_reads' HO_4.out).2.1); rintro e w84 ⟨v554, rfl, ho0, hb⟩; refine ⟨_, rfl, ?_⟩; have n0 := aM_ (Kd.Q_elder' (by (with_reducible repeat (first | apply qA_ | apply qN_ | apply qD_)); exact HO_4.out) (Kd.R_base ho0) hb); have n1 := aM_ (Kd.R_elder' (by (with_reducible repeat (first | apply rA_ | apply rN_ | apply rD_)); exact HO_8.out) (Kd.R_base ho0) hb); have n2 := aM_ (Kd.V_elder' (by (with_reducible repeat (first | apply Kd.V_alloc | apply Kd.V_drewN | apply Kd.V_drew)); exact HO_532000.out) (Kd.R_base ho0) hb); have n3 := aM_ (Kd.R_elder' (by (with_reducible repeat (first | apply rA_ | apply rN_ | apply rD_)); exact HO_540000.out) (Kd.R_base ho0) hb); have n4 := aM_ (Kd.V_elder' (by (with_reducible repeat (first | apply Kd.V_alloc | apply Kd.V_drewN | apply Kd.V_drew)); exact HO_548000.out) (Kd.R_base ho0) hb); have n5 := aM_ (Kd.R_lower (Kd.R_new' (Kd.R_new' ho0 (Kd.Q_lt (by (with_reducible repeat (first | apply qA_ | apply qN_ | apply qD_)); exact HO_4.out))) (Kd.R_lt (by (with_reducible repeat (first | apply rA_ | apply rN_ | apply rD_)); exact HO_8.out))) (below_size (gB_ HB.out))); have n6 := aM_ (nB_ BK531.out hb); have n7 := aM_ (nB_ BK539.out hb); have n8 := aM_ (nB_ BK547.out hb); have n9 := aM_ (sT_ HB.out hb); clear HO_4; clear HO_8; clear HO_532000; clear HO_540000; clear HO_548000; clear BK531; clear BK539; clear BK547; clear HB; have HO_4 := n0; have HO_8 := n1; have HO_532000 := n2; have HO_540000 := n3; have HO_548000 := n4; have HO555 := n5; have BK531 := n6; have BK539 := n7; have BK547 := n8; have HB := n9; clear n0 n1 n2 n3 n4 n5 n6 n7 n8 n9; (try clear ho0); have hnb85 := NB539_547.out; have hnc85 := NB547_539.out; have hcz86_0 : w84.cell? ⟨gb539, 0, none⟩ = some (.slice Ao15 t532.length co15) := (blk_cell BK539.out 0).trans rfl; have hfz86_0 := blk_frozen BK539.out 0; obtain ⟨Ao87, co87, eo87⟩ := Kd.R_slice HO_8.out; subst eo87) | ((with_reducible refine gate_callee (f := 21) rfl ?_); refine gL_ (some 88) Try.func21 #[.agg #[.slice Ao15 t532.length co15], .slice Ao87 t535.length co87, .int .i64 t529, .int .i64 0, .bool false] ?_; (with_reducible refine (impl_Load.calls kj31 _ _ t532 _ _ t535 t529 0 false t556 t557 _ ?side1 ?side2 ?side3 ?side4 A65.out).mono ?_); (case side1 => exact cS_ (Kd.R_reads' HO_540000.out).2.2); (case side2 => exact (Kd.R_reads' HO_540000.out).2.1); (case side3 => exact cS_ (Kd.R_reads' HO_8.out).2.2); (case side4 => exact (Kd.R_reads' HO_8.out).2.1); rintro e w88 ⟨v558, rfl, ho0, hb⟩; refine ⟨_, rfl, ?_⟩; have n0 := aM_ (Kd.Q_elder' (by (with_reducible repeat (first | apply qA_ | apply qN_ | apply qD_)); exact HO_4.out) (Kd.R_base ho0) hb); have n1 := aM_ (Kd.R_elder' (by (with_reducible repeat (first | apply rA_ | apply rN_ | apply rD_)); exact HO_8.out) (Kd.R_base ho0) hb); have n2 := aM_ (Kd.V_elder' (by (with_reducible repeat (first | apply Kd.V_alloc | apply Kd.V_drewN | apply Kd.V_drew)); exact HO_532000.out) (Kd.R_base ho0) hb); have n3 := aM_ (Kd.R_elder' (by (with_reducible repeat (first | apply rA_ | apply rN_ | apply rD_)); exact HO_540000.out) (Kd.R_base ho0) hb); have n4 := aM_ (Kd.V_elder' (by (with_reducible repeat (first | apply Kd.V_alloc | apply Kd.V_drewN | apply Kd.V_drew)); exact HO_548000.out) (Kd.R_base ho0) hb); have n5 := aM_ (Kd.R_elder' (by (with_reducible repeat (first | apply rA_ | apply rN_ | apply rD_)); exact HO555.out) (Kd.R_base ho0) hb); have n6 := aM_ (Kd.R_lower (Kd.R_new' (Kd.R_new' (Kd.R_new' ho0 (Kd.Q_lt (by (with_reducible repeat (first | apply qA_ | apply qN_ | apply qD_)); exact HO_4.out))) (Kd.R_lt (by (with_reducible repeat (first | apply rA_ | apply rN_ | apply rD_)); exact HO_8.out))) (Kd.R_lt (by (with_reducible repeat (first | apply rA_ | apply rN_ | apply rD_)); exact HO555.out))) (below_size (gB_ HB.out))); have n7 := aM_ (nB_ BK531.out hb); have n8 := aM_ (nB_ BK539.out hb); have n9 := aM_ (nB_ BK547.out hb); have n10 := aM_ (sT_ HB.out hb); clear HO_4; clear HO_8; clear HO_532000; clear HO_540000; clear HO_548000; clear HO555; clear BK531; clear BK539; clear BK547; clear HB; have HO_4 := n0; have HO_8 := n1; have HO_532000 := n2; have HO_540000 := n3; have HO_548000 := n4; have HO555 := n5; have HO559 := n6; have BK531 := n7; have BK539 := n8; have BK547 := n9; have HB := n10; clear n0 n1 n2 n3 n4 n5 n6 n7 n8 n9 n10; (try clear ho0)) | (go_at_call 23; (with_reducible refine (impl_Knows.calls kj31 _ _ t535 _ _ t526 false _ ?side1 ?side2 ?side3 ?side4 A68.out).mono ?_); (case side1 => exact cS_ (Kd.R_reads' HO_8.out).2.2); (case side2 => exact (Kd.R_reads' HO_8.out).2.1); (case side3 => exact cS_ (Kd.Q_reads' HO_4.out).2.2); (case side4 => exact (Kd.Q_reads' HO_4.out).2.1); rintro e w' ⟨rfl, ⟨nd, rfl⟩⟩))
           go_ret
           exact fI_ HB.out
         ·rw [if_neg c67] at H
          have c67b0 : (t556 == t530) = false := beq_eq_false_iff_ne.mpr c67
          have c67b1 : (t556 != t530) = true := bne_iff_ne.mpr c67
          obtain rfl := Option.some.inj H
          have hnb89 := NB531_539.out
          have hnc89 := NB539_531.out
          have hnb90 := NB531_547.out
          have hnc90 := NB547_531.out
          have hcz91_0 : wc.cell? ⟨gb531, 0, none⟩ = some (.slice Ao10 t523.length co10) := (blk_cell BK531.out 0).trans rfl
          have hfz91_0 := blk_frozen BK531.out 0
          go_wp2_with (first | ((with_reducible refine gate_callee (f := 21) rfl ?_); refine gL_ (some 81) Try.func21 #[.agg #[.slice Ao10 t523.length co10], .slice Ao12 t526.length co12, .int .i64 t529, .int .i64 0, .bool false] ?_; (with_reducible refine (impl_Load.calls kj31 _ _ t523 _ _ t526 t529 0 false t552 t553 _ ?side1 ?side2 ?side3 ?side4 A64.out).mono ?_); (case side1 => exact cS_ (Kd.V_reads' HO_532000.out).2.2); (case side2 => exact (Kd.V_reads' HO_532000.out).2.1); (case side3 => exact cS_ (Kd.Q_reads' HO_4.out).2.2); (case side4 => exact (Kd.Q_reads' HO_4.out).2.1); rintro e w92 ⟨v554, rfl, ho0, hb⟩; refine ⟨_, rfl, ?_⟩; have n0 := aM_ (Kd.Q_elder' (by (with_reducible repeat (first | apply qA_ | apply qN_ | apply qD_)); exact HO_4.out) (Kd.R_base ho0) hb); have n1 := aM_ (Kd.R_elder' (by (with_reducible repeat (first | apply rA_ | apply rN_ | apply rD_)); exact HO_8.out) (Kd.R_base ho0) hb); have n2 := aM_ (Kd.V_elder' (by (with_reducible repeat (first | apply Kd.V_alloc | apply Kd.V_drewN | apply Kd.V_drew)); exact HO_532000.out) (Kd.R_base ho0) hb); have n3 := aM_ (Kd.R_elder' (by (with_reducible repeat (first | apply rA_ | apply rN_ | apply rD_)); exact HO_540000.out) (Kd.R_base ho0) hb); have n4 := aM_ (Kd.V_elder' (by (with_reducible repeat (first | apply Kd.V_alloc | apply Kd.V_drewN | apply Kd.V_drew)); exact HO_548000.out) (Kd.R_base ho0) hb); have n5 := aM_ (Kd.R_lower (Kd.R_new' (Kd.R_new' ho0 (Kd.Q_lt (by (with_reducible repeat (first | apply qA_ | apply qN_ | apply qD_)); exact HO_4.out))) (Kd.R_lt (by (with_reducible repeat (first | apply rA_ | apply rN_ | apply rD_)); exact HO_8.out))) (below_size (gB_ HB.out))); have n6 := aM_ (nB_ BK531.out hb); have n7 := aM_ (nB_ BK539.out hb); have n8 := aM_ (nB_ BK547.out hb); have n9 := aM_ (sT_ HB.out hb); clear HO_4; clear HO_8; clear HO_532000; clear HO_540000; clear HO_548000; clear BK531; clear BK539; clear BK547; clear HB; have HO_4 := n0; have HO_8 := n1; have HO_532000 := n2; have HO_540000 := n3; have HO_548000 := n4; have HO555 := n5; have BK531 := n6; have BK539 := n7; have BK547 := n8; have HB := n9; clear n0 n1 n2 n3 n4 n5 n6 n7 n8 n9; (try clear ho0); have hnb93 := NB539_547.out; have hnc93 := NB547_539.out; have hcz94_0 : w92.cell? ⟨gb539, 0, none⟩ = some (.slice Ao15 t532.length co15) := (blk_cell BK539.out 0).trans rfl; have hfz94_0 := blk_frozen BK539.out 0; obtain ⟨Ao95, co95, eo95⟩ := Kd.R_slice HO_8.out; subst eo95) | ((with_reducible refine gate_callee (f := 21) rfl ?_); refine gL_ (some 88) Try.func21 #[.agg #[.slice Ao15 t532.length co15], .slice Ao95 t535.length co95, .int .i64 t529, .int .i64 0, .bool false] ?_; (with_reducible refine (impl_Load.calls kj31 _ _ t532 _ _ t535 t529 0 false t556 t557 _ ?side1 ?side2 ?side3 ?side4 A65.out).mono ?_); (case side1 => exact cS_ (Kd.R_reads' HO_540000.out).2.2); (case side2 => exact (Kd.R_reads' HO_540000.out).2.1); (case side3 => exact cS_ (Kd.R_reads' HO_8.out).2.2); (case side4 => exact (Kd.R_reads' HO_8.out).2.1); rintro e w96 ⟨v558, rfl, ho0, hb⟩; refine ⟨_, rfl, ?_⟩; have n0 := aM_ (Kd.Q_elder' (by (with_reducible repeat (first | apply qA_ | apply qN_ | apply qD_)); exact HO_4.out) (Kd.R_base ho0) hb); have n1 := aM_ (Kd.R_elder' (by (with_reducible repeat (first | apply rA_ | apply rN_ | apply rD_)); exact HO_8.out) (Kd.R_base ho0) hb); have n2 := aM_ (Kd.V_elder' (by (with_reducible repeat (first | apply Kd.V_alloc | apply Kd.V_drewN | apply Kd.V_drew)); exact HO_532000.out) (Kd.R_base ho0) hb); have n3 := aM_ (Kd.R_elder' (by (with_reducible repeat (first | apply rA_ | apply rN_ | apply rD_)); exact HO_540000.out) (Kd.R_base ho0) hb); have n4 := aM_ (Kd.V_elder' (by (with_reducible repeat (first | apply Kd.V_alloc | apply Kd.V_drewN | apply Kd.V_drew)); exact HO_548000.out) (Kd.R_base ho0) hb); have n5 := aM_ (Kd.R_elder' (by (with_reducible repeat (first | apply rA_ | apply rN_ | apply rD_)); exact HO555.out) (Kd.R_base ho0) hb); have n6 := aM_ (Kd.R_lower (Kd.R_new' (Kd.R_new' (Kd.R_new' ho0 (Kd.Q_lt (by (with_reducible repeat (first | apply qA_ | apply qN_ | apply qD_)); exact HO_4.out))) (Kd.R_lt (by (with_reducible repeat (first | apply rA_ | apply rN_ | apply rD_)); exact HO_8.out))) (Kd.R_lt (by (with_reducible repeat (first | apply rA_ | apply rN_ | apply rD_)); exact HO555.out))) (below_size (gB_ HB.out))); have n7 := aM_ (nB_ BK531.out hb); have n8 := aM_ (nB_ BK539.out hb); have n9 := aM_ (nB_ BK547.out hb); have n10 := aM_ (sT_ HB.out hb); clear HO_4; clear HO_8; clear HO_532000; clear HO_540000; clear HO_548000; clear HO555; clear BK531; clear BK539; clear BK547; clear HB; have HO_4 := n0; have HO_8 := n1; have HO_532000 := n2; have HO_540000 := n3; have HO_548000 := n4; have HO555 := n5; have HO559 := n6; have BK531 := n7; have BK539 := n8; have BK547 := n9; have HB := n10; clear n0 n1 n2 n3 n4 n5 n6 n7 n8 n9 n10; (try clear ho0)))
          go_ret
          exact fI_ HB.out
        ·rw [if_neg c66] at H
         have c66b0 : (t552 == t538) = false := beq_eq_false_iff_ne.mpr c66
         have c66b1 : (t552 != t538) = true := bne_iff_ne.mpr c66
         obtain rfl := Option.some.inj H
         have hnb97 := NB531_539.out
         have hnc97 := NB539_531.out
         have hnb98 := NB531_547.out
         have hnc98 := NB547_531.out
         have hcz99_0 : wc.cell? ⟨gb531, 0, none⟩ = some (.slice Ao10 t523.length co10) := (blk_cell BK531.out 0).trans rfl
         have hfz99_0 := blk_frozen BK531.out 0
         go_wp2_with (first | ((with_reducible refine gate_callee (f := 21) rfl ?_); refine gL_ (some 81) Try.func21 #[.agg #[.slice Ao10 t523.length co10], .slice Ao12 t526.length co12, .int .i64 t529, .int .i64 0, .bool false] ?_; (with_reducible refine (impl_Load.calls kj31 _ _ t523 _ _ t526 t529 0 false t552 t553 _ ?side1 ?side2 ?side3 ?side4 A64.out).mono ?_); (case side1 => exact cS_ (Kd.V_reads' HO_532000.out).2.2); (case side2 => exact (Kd.V_reads' HO_532000.out).2.1); (case side3 => exact cS_ (Kd.Q_reads' HO_4.out).2.2); (case side4 => exact (Kd.Q_reads' HO_4.out).2.1); rintro e w100 ⟨v554, rfl, ho0, hb⟩; refine ⟨_, rfl, ?_⟩; have n0 := aM_ (Kd.Q_elder' (by (with_reducible repeat (first | apply qA_ | apply qN_ | apply qD_)); exact HO_4.out) (Kd.R_base ho0) hb); have n1 := aM_ (Kd.R_elder' (by (with_reducible repeat (first | apply rA_ | apply rN_ | apply rD_)); exact HO_8.out) (Kd.R_base ho0) hb); have n2 := aM_ (Kd.V_elder' (by (with_reducible repeat (first | apply Kd.V_alloc | apply Kd.V_drewN | apply Kd.V_drew)); exact HO_532000.out) (Kd.R_base ho0) hb); have n3 := aM_ (Kd.R_elder' (by (with_reducible repeat (first | apply rA_ | apply rN_ | apply rD_)); exact HO_540000.out) (Kd.R_base ho0) hb); have n4 := aM_ (Kd.V_elder' (by (with_reducible repeat (first | apply Kd.V_alloc | apply Kd.V_drewN | apply Kd.V_drew)); exact HO_548000.out) (Kd.R_base ho0) hb); have n5 := aM_ (Kd.R_lower (Kd.R_new' (Kd.R_new' ho0 (Kd.Q_lt (by (with_reducible repeat (first | apply qA_ | apply qN_ | apply qD_)); exact HO_4.out))) (Kd.R_lt (by (with_reducible repeat (first | apply rA_ | apply rN_ | apply rD_)); exact HO_8.out))) (below_size (gB_ HB.out))); have n6 := aM_ (nB_ BK531.out hb); have n7 := aM_ (nB_ BK539.out hb); have n8 := aM_ (nB_ BK547.out hb); have n9 := aM_ (sT_ HB.out hb); clear HO_4; clear HO_8; clear HO_532000; clear HO_540000; clear HO_548000; clear BK531; clear BK539; clear BK547; clear HB; have HO_4 := n0; have HO_8 := n1; have HO_532000 := n2; have HO_540000 := n3; have HO_548000 := n4; have HO555 := n5; have BK531 := n6; have BK539 := n7; have BK547 := n8; have HB := n9; clear n0 n1 n2 n3 n4 n5 n6 n7 n8 n9; (try clear ho0); have hnb101 := NB539_547.out; have hnc101 := NB547_539.out; have hcz102_0 : w100.cell? ⟨gb539, 0, none⟩ = some (.slice Ao15 t532.length co15) := (blk_cell BK539.out 0).trans rfl; have hfz102_0 := blk_frozen BK539.out 0; obtain ⟨Ao103, co103, eo103⟩ := Kd.R_slice HO_8.out; subst eo103) | ((with_reducible refine gate_callee (f := 21) rfl ?_); refine gL_ (some 88) Try.func21 #[.agg #[.slice Ao15 t532.length co15], .slice Ao103 t535.length co103, .int .i64 t529, .int .i64 0, .bool false] ?_; (with_reducible refine (impl_Load.calls kj31 _ _ t532 _ _ t535 t529 0 false t556 t557 _ ?side1 ?side2 ?side3 ?side4 A65.out).mono ?_); (case side1 => exact cS_ (Kd.R_reads' HO_540000.out).2.2); (case side2 => exact (Kd.R_reads' HO_540000.out).2.1); (case side3 => exact cS_ (Kd.R_reads' HO_8.out).2.2); (case side4 => exact (Kd.R_reads' HO_8.out).2.1); rintro e w104 ⟨v558, rfl, ho0, hb⟩; refine ⟨_, rfl, ?_⟩; have n0 := aM_ (Kd.Q_elder' (by (with_reducible repeat (first | apply qA_ | apply qN_ | apply qD_)); exact HO_4.out) (Kd.R_base ho0) hb); have n1 := aM_ (Kd.R_elder' (by (with_reducible repeat (first | apply rA_ | apply rN_ | apply rD_)); exact HO_8.out) (Kd.R_base ho0) hb); have n2 := aM_ (Kd.V_elder' (by (with_reducible repeat (first | apply Kd.V_alloc | apply Kd.V_drewN | apply Kd.V_drew)); exact HO_532000.out) (Kd.R_base ho0) hb); have n3 := aM_ (Kd.R_elder' (by (with_reducible repeat (first | apply rA_ | apply rN_ | apply rD_)); exact HO_540000.out) (Kd.R_base ho0) hb); have n4 := aM_ (Kd.V_elder' (by (with_reducible repeat (first | apply Kd.V_alloc | apply Kd.V_drewN | apply Kd.V_drew)); exact HO_548000.out) (Kd.R_base ho0) hb); have n5 := aM_ (Kd.R_elder' (by (with_reducible repeat (first | apply rA_ | apply rN_ | apply rD_)); exact HO555.out) (Kd.R_base ho0) hb); have n6 := aM_ (Kd.R_lower (Kd.R_new' (Kd.R_new' (Kd.R_new' ho0 (Kd.Q_lt (by (with_reducible repeat (first | apply qA_ | apply qN_ | apply qD_)); exact HO_4.out))) (Kd.R_lt (by (with_reducible repeat (first | apply rA_ | apply rN_ | apply rD_)); exact HO_8.out))) (Kd.R_lt (by (with_reducible repeat (first | apply rA_ | apply rN_ | apply rD_)); exact HO555.out))) (below_size (gB_ HB.out))); have n7 := aM_ (nB_ BK531.out hb); have n8 := aM_ (nB_ BK539.out hb); have n9 := aM_ (nB_ BK547.out hb); have n10 := aM_ (sT_ HB.out hb); clear HO_4; clear HO_8; clear HO_532000; clear HO_540000; clear HO_548000; clear HO555; clear BK531; clear BK539; clear BK547; clear HB; have HO_4 := n0; have HO_8 := n1; have HO_532000 := n2; have HO_540000 := n3; have HO_548000 := n4; have HO555 := n5; have HO559 := n6; have BK531 := n7; have BK539 := n8; have BK547 := n9; have HB := n10; clear n0 n1 n2 n3 n4 n5 n6 n7 n8 n9 n10; (try clear ho0)))
         go_ret
         exact fI_ HB.out
end Go.Proofs.Ythbcnakmnbilhaa.PFnSwap
namespace Go.Proofs.Ythbcnakmnbilhaa.Lp
open Go.RowKit Go.Proofs.YthbcnakmnbilhaaW.PrintWords
set_option linter.unusedVariables false
set_option linter.unusedSimpArgs false
theorem wrapS {j n : Nat} (h : j < n) (hn : n ≤ 9223372036854775807) : wrap64 ((j : Int) + 1) = ((j + 1 : Nat) : Int) := by
  unfold wrap64; omega
theorem wrap_in {n : Int} (h0 : -9223372036854775808 ≤ n) (h1 : n ≤ 9223372036854775807) : wrap64 n = n := by
  unfold wrap64; omega
theorem rd_get {xs : List Int} {j : Nat} (h : j < xs.length) : rd xs (j : Int) = xs[j] := by simp [rd, List.getD_eq_getElem?_getD, h]
theorem count_up {ρ : Type} {L : Nat → Nat → Option ρ} {R : Nat → ρ} {n : Nat} (hend : Ev (L n) (R n)) (hstep : ∀ j, j < n → Ev (L (j + 1)) (R (j + 1)) → Ev (L j) (R j)) : ∀ j, j ≤ n → Ev (L j) (R j) := by
  have key : ∀ d j, j + d = n → Ev (L j) (R j) := by
    intro d
    induction d with
    | zero => intro j hj; obtain rfl : j = n := by omega
              exact hend
    | succ d ih => intro j hj; exact hstep j (by omega) (ih (j + 1) (by omega))
  exact fun j hj => key (n - j) j (by omega)
theorem Ev.one {α : Type} {g : Nat → Option α} {r : α} (h : ∀ k, g (k + 1) = some r) : Ev g r := ⟨1, fun k hk => by
  obtain ⟨m, rfl⟩ : ∃ m, k = m + 1 := ⟨k - 1, by omega⟩
  exact h m⟩
theorem Ev.all {α : Type} {g : Nat → Option α} {r : α} (h : ∀ k, g k = some r) : Ev g r := ⟨0, fun k _ => h k⟩
def agree {α : Type} [DecidableEq α] (a b : List α) (j : Nat) : Bool := decide (a.drop j = b.drop j)
theorem agree_step {α : Type} [DecidableEq α] {a b : List α} {j : Nat} (ha : j < a.length) (hb : j < b.length) (h : a[j] = b[j]) : agree a b j = agree a b (j + 1) := by
  unfold agree
  have e1 := List.drop_eq_getElem_cons ha
  have e2 := List.drop_eq_getElem_cons hb
  rw [decide_eq_decide, e1, e2, h, List.cons.injEq]
  exact ⟨fun c => c.2, fun c => ⟨rfl, c⟩⟩
theorem agree_no {α : Type} [DecidableEq α] {a b : List α} {j : Nat} (ha : j < a.length) (hb : j < b.length) (h : ¬ a[j] = b[j]) : agree a b j = false := by
  unfold agree
  have e1 := List.drop_eq_getElem_cons ha
  have e2 := List.drop_eq_getElem_cons hb
  rw [decide_eq_false_iff_not, e1, e2]
  intro c
  injection c with c1
  exact h c1
theorem agree_end {α : Type} [DecidableEq α] {a b : List α} (h : a.length = b.length) : agree a b a.length = true := by
  unfold agree
  simp [h]
def allFrom {α : Type} (p : α → Bool) (xs : List α) (j : Nat) : Bool := (xs.drop j).all p
theorem allFrom_step {α : Type} {p : α → Bool} {xs : List α} {j : Nat} (h : j < xs.length) : allFrom p xs j = (p xs[j] && allFrom p xs (j + 1)) := by
  unfold allFrom
  rw [List.drop_eq_getElem_cons h, List.all_cons]
theorem allFrom_end {α : Type} {p : α → Bool} (xs : List α) : allFrom p xs xs.length = true := by simp [allFrom]
theorem allFrom_zero {α : Type} (p : α → Bool) (xs : List α) : allFrom p xs 0 = xs.all p := rfl
theorem Ev.val {α : Type} {g : Nat → Option α} {r r' : α} (h : r = r') (k : Ev g r) : Ev g r' := h ▸ k
theorem Ev.ite_pos {α : Type} {c : Prop} [Decidable c] {g f : Nat → Option α} {r : α} (h : c) (k : Ev g r) : Ev (fun n => if c then g n else f n) r := by simp only [if_pos h]; exact k
theorem Ev.ite_neg {α : Type} {c : Prop} [Decidable c] {g f : Nat → Option α} {r : α} (h : ¬ c) (k : Ev f r) : Ev (fun n => if c then g n else f n) r := by simp only [if_neg h]; exact k
theorem yes_loop {ρ : Type} {L : Nat → Nat → Option ρ} (n : Nat) (r : ρ) (hend : Ev (L n) r) (hstep : ∀ j, j < n → Ev (L (j + 1)) r → Ev (L j) r) : Ev (L 0) r :=
  count_up (R := fun _ => r) hend hstep 0 (Nat.zero_le _)
theorem all_loop {α : Type} {L : Nat → Nat → Option Bool} (xs : List α) (p : α → Bool) {b : Bool} (hend : Ev (L xs.length) b) (hyes : ∀ j (h : j < xs.length), p xs[j] = true → ∀ r, Ev (L (j + 1)) r → Ev (L j) r) (hno : ∀ j (h : j < xs.length), p xs[j] = false → Ev (L j) false) : Ev (L 0) (xs.all p && b) := by
  have key : ∀ d j, j + d = xs.length → Ev (L j) (allFrom p xs j && b) := by
    intro d
    induction d with
    | zero =>
      intro j hj
      obtain rfl : j = xs.length := by omega
      rw [allFrom_end, Bool.true_and]
      exact hend
    | succ d ih =>
      intro j hj
      have h : j < xs.length := by omega
      rw [allFrom_step h]
      cases e : p xs[j] with
      | true => rw [Bool.true_and]; exact hyes j h e _ (ih (j + 1) (by omega))
      | false => rw [Bool.false_and, Bool.false_and]; exact hno j h e
  have := key xs.length 0 (by omega)
  rwa [allFrom_zero] at this
theorem yes_all {α ρ : Type} {L : Nat → Nat → Option ρ} {r : ρ} (xs : List α) (p : α → Bool) (h : xs.all p = true) (hend : Ev (L xs.length) r) (hyes : ∀ j (h : j < xs.length), p xs[j] = true → Ev (L (j + 1)) r → Ev (L j) r) : Ev (L 0) r :=
  yes_loop xs.length r hend (fun j hj ih => hyes j hj (List.all_eq_true.1 h _ (List.getElem_mem hj)) ih)
theorem no_all {α ρ : Type} {L : Nat → Nat → Option ρ} {r : ρ} (xs : List α) (p : α → Bool) (h : xs.all p = false) (hyes : ∀ j (h : j < xs.length), p xs[j] = true → Ev (L (j + 1)) r → Ev (L j) r) (hno : ∀ j (h : j < xs.length), p xs[j] = false → Ev (L j) r) : Ev (L 0) r := by
  have key : ∀ d j, j + d = xs.length → allFrom p xs j = false → Ev (L j) r := by
    intro d
    induction d with
    | zero =>
      intro j hj hf
      obtain rfl : j = xs.length := by omega
      rw [allFrom_end] at hf
      cases hf
    | succ d ih =>
      intro j hj hf
      have hlt : j < xs.length := by omega
      rw [allFrom_step hlt] at hf
      cases e : p xs[j] with
      | true => rw [e, Bool.true_and] at hf; exact hyes j hlt e (ih (j + 1) (by omega) hf)
      | false => exact hno j hlt e
  exact key xs.length 0 (by omega) (by rw [allFrom_zero]; exact h)
end Go.Proofs.Ythbcnakmnbilhaa.Lp
