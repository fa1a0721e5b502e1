/- A part of the proof that the law FnExactStuck holds for every input. -/
import Derived.Test.YtobachfngmpeiaaZFnExactStucka17
import Derived.Test.YtobachfngmpeiaaZFnExactStucks
namespace Go.Proofs.Ytobachfngmpeiaa.PFnExactStuck
open Go.RowKit Go.Proofs.YtobachfngmpeiaaW.PrintWords Go.Proofs.YtobachfngmpeiaaW.PrintLast Go.Proofs.YtobachfngmpeiaaW.PrintMore
attribute [local go_sem] max2_int min2_int max_two min_two max_three min_three max_four min_four   -- for this text's walks alone
set_option linter.unusedVariables false
set_option linter.unusedSimpArgs false
def laws_toSource.f (k : Nat) (l0_0 : List (S184)) (l0_1 : List (S186)) (l0_2 : List (S190)) : Option ((List (S107)) × (List (S94)) × (List (S35))) := (laws_toThreadS.f k l0_0).bind fun t371 => ((laws_toChanS.f k l0_1).bind fun t374 => ((laws_toNoteS.f k l0_2).bind fun t377 => (some (t371,t374,t377))))
set_option maxHeartbeats 8000000 in
set_option maxRecDepth 100000 in
theorem laws_toSource.calls (k : Nat) (A0_0 : Option Addr) (c0_0 : Nat) (l0_0 : List (S184)) (A0_1 : Option Addr) (c0_1 : Nat) (l0_1 : List (S186)) (A0_2 : Option Addr) (c0_2 : Nat) (l0_2 : List (S190)) (r1 : List (S107)) (r2 : List (S94)) (r3 : List (S35)) (w : World) (hr0_0 : Kd.C k184 w A0_0 l0_0.length l0_0) (hc0_0 : l0_0.length ≤ c0_0) (hr0_1 : Kd.C k186 w A0_1 l0_1.length l0_1) (hc0_1 : l0_1.length ≤ c0_1) (hr0_2 : Kd.C k190 w A0_2 l0_2.length l0_2) (hc0_2 : l0_2.length ≤ c0_2) (h : laws_toSource.f k l0_0 l0_1 l0_2 = some (r1,r2,r3)) :
  Calls Try.prog 35 #[.agg #[.slice A0_0 l0_0.length c0_0,.slice A0_1 l0_1.length c0_1,.slice A0_2 l0_2.length c0_2]] w fun e w' => ∃ v0_ v1_ v2_ : Value,e = .returned (.agg #[v0_,v1_,v2_]) ∧ Kd.S k107 107 w' w.heap.size (fun _ => True) v0_ r1 ∧ Kd.S k94 94 w' w.heap.size (fun _ => True) v1_ r2 ∧ Kd.R k35 35 w' w.heap.size (fun _ => True) v2_ r3 ∧ Below w.heap.size w w' := by
 have hu72 := Try.underlying72
 have hu28 := Try.underlying28
 have HR0_0 := aM_ hr0_0
 have HC0_0 := aM_ hc0_0
 clear hr0_0 hc0_0
 have HR0_1 := aM_ hr0_1
 have HC0_1 := aM_ hc0_1
 clear hr0_1 hc0_1
 have HR0_2 := aM_ hr0_2
 have HC0_2 := aM_ hc0_2
 clear hr0_2 hc0_2
 have HB := aM_ (Below.refl w.heap.size w)
 have H : ((laws_toThreadS.f k l0_0).bind fun t371 => ((laws_toChanS.f k l0_1).bind fun t374 => ((laws_toNoteS.f k l0_2).bind fun t377 => (some (t371,t374,t377))))) = some (r1,r2,r3) := h
 clear h
 replace H := Option.bind_eq_some_iff.mp H
 obtain ⟨t371,A20,H⟩ := H
 replace H : ((laws_toChanS.f k l0_1).bind fun t374 => ((laws_toNoteS.f k l0_2).bind fun t377 => (some (t371,t374,t377)))) = some (r1,r2,r3) := H
 have A2 := aM_ A20
 clear A20
 replace H := Option.bind_eq_some_iff.mp H
 obtain ⟨t374,A30,H⟩ := H
 replace H : ((laws_toNoteS.f k l0_2).bind fun t377 => (some (t371,t374,t377))) = some (r1,r2,r3) := H
 have A3 := aM_ A30
 clear A30
 replace H := Option.bind_eq_some_iff.mp H
 obtain ⟨t377,A40,H⟩ := H
 replace H : (some (t371,t374,t377)) = some (r1,r2,r3) := H
 have A4 := aM_ A40
 clear A40
 simp only [Option.some.injEq,Prod.mk.injEq] at H
 obtain ⟨rfl,rfl,rfl⟩ := H
 go_enter Try.func35,Try.ntmps35
 go_wp2_with (first | ((with_reducible refine gate_dst (N := 1) rfl ?_);refine bX_ 1 (cs := #[.slice A0_0 l0_0.length c0_0,.slice A0_1 l0_1.length c0_1,.slice A0_2 l0_2.length c0_2]) (t := 72) ?_;intro gb368 hg w5 hbox hb;have BK368 := aM_ (hbox);have GE368 := aM_ (sZ_ hg HB.out);replace HB := aM_ (sT_ HB.out hb);clear hb hbox hg) | ((with_reducible refine gate_dst (N := 2) rfl ?_);refine bX_ 2 (cs := #[.slice none 0 0,.slice none 0 0,.slice none 0 0]) (t := 28) ?_;intro gb369 hg w6 hbox hb;have BK369 := aM_ (hbox);have GE369 := aM_ (sZ_ hg HB.out);have NB368_369 := aM_ (nL_ hg BK368.out);have NB369_368 := aM_ (nG_ hg BK368.out);replace BK368 := aM_ (nB_ BK368.out hb);replace HB := aM_ (sT_ HB.out hb);clear hb hbox hg) | ((with_reducible refine gate_dst (N := 3) rfl ?_);refine bX_ 3 (cs := #[.slice none 0 0,.slice none 0 0,.slice none 0 0]) (t := 28) ?_;intro gb370 hg w7 hbox hb;have BK370 := aM_ (hbox);have GE370 := aM_ (sZ_ hg HB.out);have NB368_370 := aM_ (nL_ hg BK368.out);have NB370_368 := aM_ (nG_ hg BK368.out);have NB369_370 := aM_ (nL_ hg BK369.out);have NB370_369 := aM_ (nG_ hg BK369.out);replace BK368 := aM_ (nB_ BK368.out hb);replace BK369 := aM_ (nB_ BK369.out hb);replace HB := aM_ (sT_ HB.out hb);clear hb hbox hg;have hnb8 := NB368_369.out;have hnc8 := NB369_368.out;have hnb9 := NB368_370.out;have hnc9 := NB370_368.out;have z_10 := bR3_ BK368.out) | ((with_reducible refine gate_callee (f := 95) rfl ?_);refine gL_ (some 6) Try.func95 #[.slice A0_0 l0_0.length c0_0] ?_;(with_reducible refine (laws_toThreadS.calls k _ _ l0_0 t371 _ ?side1 ?side2 A2.out).mono ?_);(case side1 => exact cS_ (Kd.C_below HR0_0.out HB.out));(case side2 => exact HC0_0.out);rintro e w11 ⟨v372,rfl,ho0,hb⟩;refine ⟨_,rfl,?_⟩;have HO373 := aM_ (Kd.S_lower ho0 (below_size (gB_ HB.out)));replace BK368 := aM_ (nB_ BK368.out hb);replace BK369 := aM_ (nB_ BK369.out hb);replace BK370 := aM_ (nB_ BK370.out hb);replace HB := aM_ (sT_ HB.out hb);(try clear ho0);obtain ⟨Ao12,co12,eo12⟩ := Kd.S_slice HO373.out;subst eo12;have hnb13 := NB370_369.out;have hnc13 := NB369_370.out;have z_14 := bR3_ BK370.out;have z_15 := bR3_ BK368.out) | ((with_reducible refine gate_callee (f := 96) rfl ?_);refine gL_ (some 10) Try.func96 #[.slice A0_1 l0_1.length c0_1] ?_;(with_reducible refine (laws_toChanS.calls k _ _ l0_1 t374 _ ?side1 ?side2 A3.out).mono ?_);(case side1 => exact Kd.C_below HR0_1.out (gB_ HB.out));(case side2 => exact HC0_1.out);rintro e w16 ⟨v375,rfl,ho0,hb⟩;refine ⟨_,rfl,?_⟩;have HO376 := aM_ (Kd.S_lower ho0 (below_size (gB_ HB.out)));replace HO373 := aM_ (Kd.S_below (by (with_reducible repeat (first | apply Kd.S_alloc | apply Kd.S_drewN | apply Kd.S_drew));exact (Kd.S_mono (Kd.S_far (p := ⟨gb370,0,none⟩) (Kd.S_types HO373.out BK370.out (by decide)) (fun _ hk => hk.2) (.slice Ao12 t371.length co12)) (fun _ h_ => h_.1))) hb);replace BK368 := aM_ (nBf_ BK368.out hb);replace BK369 := aM_ (nBf_ BK369.out hb);replace BK370 := aM_ (blk_below (g := gb370) (o := .cells #[.slice Ao12 t371.length co12,.slice none 0 0,.slice none 0 0] 28 (0,0)) (by (with_reducible repeat (first | refine bN_ ?_ _ | refine bD_ ?_ | refine bA_ ?_ _));refine blk_put (cs := #[.slice none 0 0,.slice none 0 0,.slice none 0 0]) ?_ 0 _ rfl;exact rW_ BK370.out) hb);replace HB := aM_ (sT_ HB.out hb);(try clear ho0);obtain ⟨Ao17,co17,eo17⟩ := Kd.S_slice HO376.out;subst eo17;have z_18 := bR3_ BK370.out;have z_19 := bR3_ BK368.out) | ((with_reducible refine gate_callee (f := 97) rfl ?_);refine gL_ (some 14) Try.func97 #[.slice A0_2 l0_2.length c0_2] ?_;(with_reducible refine (laws_toNoteS.calls k _ _ l0_2 t377 _ ?side1 ?side2 A4.out).mono ?_);(case side1 => exact Kd.C_below HR0_2.out (gB_ HB.out));(case side2 => exact HC0_2.out);rintro e w20 ⟨v378,rfl,ho0,hb⟩;refine ⟨_,rfl,?_⟩;have HO379 := aM_ (Kd.R_lower ho0 (below_size (gB_ HB.out)));replace HO373 := aM_ (Kd.S_below (by (with_reducible repeat (first | apply Kd.S_alloc | apply Kd.S_drewN | apply Kd.S_drew));exact (Kd.S_mono (Kd.S_far (p := ⟨gb370,1,none⟩) (Kd.S_types HO373.out BK370.out (by decide)) (fun _ hk => hk.2) (.slice Ao17 t374.length co17)) (fun _ h_ => h_.1))) hb);replace HO376 := aM_ (Kd.S_below (by (with_reducible repeat (first | apply Kd.S_alloc | apply Kd.S_drewN | apply Kd.S_drew));exact (Kd.S_mono (Kd.S_far (p := ⟨gb370,1,none⟩) (Kd.S_types HO376.out BK370.out (by decide)) (fun _ hk => hk.2) (.slice Ao17 t374.length co17)) (fun _ h_ => h_.1))) hb);replace BK368 := aM_ (nBf_ BK368.out hb);replace BK369 := aM_ (nBf_ BK369.out hb);replace BK370 := aM_ (blk_below (g := gb370) (o := .cells #[.slice Ao12 t371.length co12,.slice Ao17 t374.length co17,.slice none 0 0] 28 (0,0)) (by (with_reducible repeat (first | refine bN_ ?_ _ | refine bD_ ?_ | refine bA_ ?_ _));refine blk_put (cs := #[.slice Ao12 t371.length co12,.slice none 0 0,.slice none 0 0]) ?_ 1 _ rfl;exact rW_ BK370.out) hb);replace HB := aM_ (sT_ HB.out hb);(try clear ho0);obtain ⟨Ao21,co21,eo21⟩ := Kd.R_slice HO379.out;subst eo21;have z_22 := bR3_ BK370.out;have z_23 := bR3_ BK369.out))
 refine bodyPost_ret (results_cell_row rfl _ _ gb369 28 #[.slice Ao12 t371.length co12,.slice Ao17 t374.length co17,.slice Ao21 t377.length co21] (0,0) _ rfl (by (with_reducible repeat (first | refine bN_ ?_ _ | refine bD_ ?_ | refine bA_ ?_ _));refine blk_put (cs := #[.slice Ao12 t371.length co12,.slice Ao17 t374.length co17,.slice none 0 0]) ?_ 2 _ rfl;refine blk_put (cs := #[.slice Ao12 t371.length co12,.slice none 0 0,.slice none 0 0]) ?_ 1 _ rfl;refine blk_put (cs := #[.slice none 0 0,.slice none 0 0,.slice none 0 0]) ?_ 0 _ rfl;exact rWf_ BK369.out) Try.underlying28 rfl (by kernel_rfl)) rfl ?_
 exact ⟨_,_,_,fR_,by (with_reducible repeat (first | apply Kd.S_alloc | apply Kd.S_drewN | apply Kd.S_drew));exact Kd.S_mono (Kd.S_far (p := ⟨gb369,2,none⟩) (Kd.S_far (p := ⟨gb369,1,none⟩) (Kd.S_far (p := ⟨gb369,0,none⟩) (Kd.S_far (p := ⟨gb370,2,none⟩) (Kd.S_types (Kd.S_types HO373.out BK370.out (by decide)) BK369.out (by decide)) (fun _ hk => hk.1.2) (.slice Ao21 t377.length co21)) (fun _ hk => hk.2) (.slice Ao12 t371.length co12)) (fun _ hk => hk.2) (.slice Ao17 t374.length co17)) (fun _ hk => hk.2) (.slice Ao21 t377.length co21)) (fun _ hk => trivial),by (with_reducible repeat (first | apply Kd.S_alloc | apply Kd.S_drewN | apply Kd.S_drew));exact Kd.S_mono (Kd.S_far (p := ⟨gb369,2,none⟩) (Kd.S_far (p := ⟨gb369,1,none⟩) (Kd.S_far (p := ⟨gb369,0,none⟩) (Kd.S_far (p := ⟨gb370,2,none⟩) (Kd.S_types (Kd.S_types HO376.out BK370.out (by decide)) BK369.out (by decide)) (fun _ hk => hk.1.2) (.slice Ao21 t377.length co21)) (fun _ hk => hk.2) (.slice Ao12 t371.length co12)) (fun _ hk => hk.2) (.slice Ao17 t374.length co17)) (fun _ hk => hk.2) (.slice Ao21 t377.length co21)) (fun _ hk => trivial),by (with_reducible repeat (first | apply rA_ | apply rN_ | apply rD_));exact Kd.R_mono (Kd.R_far (p := ⟨gb369,2,none⟩) (Kd.R_far (p := ⟨gb369,1,none⟩) (Kd.R_far (p := ⟨gb369,0,none⟩) (Kd.R_far (p := ⟨gb370,2,none⟩) (Kd.R_types (Kd.R_types HO379.out BK370.out (by decide)) BK369.out (by decide)) (fun _ hk => hk.1.2) (.slice Ao21 t377.length co21)) (fun _ hk => hk.2) (.slice Ao12 t371.length co12)) (fun _ hk => hk.2) (.slice Ao17 t374.length co17)) (fun _ hk => hk.2) (.slice Ao21 t377.length co21)) (fun _ hk => trivial),gB_ HB.out⟩
def impl_within.f (a0 : Int) (a1 : Int) (a2 : Int) : Option (Bool) := if a0 ≥ a1 then (some (decide (a0 ≤ a2))) else (some false)
set_option maxHeartbeats 8000000 in
set_option maxRecDepth 100000 in
theorem impl_within.calls (a0 : Int) (a1 : Int) (a2 : Int) (r : Bool) (w : World) (h : impl_within.f a0 a1 a2 = some r) :
  Calls Try.prog 106 #[.int .i64 a0,.int .i64 a1,.int .i64 a2] w fun e w' => e = .returned (.bool r) ∧ Drawn0 w w' := by
 have H : (if a0 ≥ a1 then (some (decide (a0 ≤ a2))) else (some false)) = some r := h
 clear h
 by_cases c4 : a0 ≥ a1
 ·rw [if_pos c4] at H
  have c4b0 : decide (a1 ≤ a0) = true := decide_eq_true c4
  clear c4
  obtain rfl := Option.some.inj H
  go_enter Try.func106,Try.ntmps106
  go_wp2
  go_ret
  exact ⟨by first | rfl | (simp;done) | (simp [*];done),by repeat (first | exact Drawn0.refl _ | apply Drawn0.step)⟩
 ·rw [if_neg c4] at H
  have c4b0 : decide (a1 ≤ a0) = false := decide_eq_false c4
  clear c4
  obtain rfl := Option.some.inj H
  go_enter Try.func106,Try.ntmps106
  go_wp2
  go_ret
  exact ⟨by first | rfl | (simp;done) | (simp [*];done),by repeat (first | exact Drawn0.refl _ | apply Drawn0.step)⟩
def impl_ChanOk.f (a0_0 : Int) (l0_1 : List Int) (a0_2 : Bool) : Option (Bool) := (impl_within.f a0_0 1 4).bind fun t381 => (if t381 = true then (some (decide ((l0_1.length : Int) ≤ a0_0))) else (some false))
set_option maxHeartbeats 8000000 in
set_option maxRecDepth 100000 in
theorem impl_ChanOk.calls (a0_0 : Int) (A0_1 : Option Addr) (c0_1 : Nat) (l0_1 : List Int) (a0_2 : Bool) (r : Bool) (w : World) (hr0_1 : Kd.C (Kd.int .i64) w A0_1 l0_1.length l0_1) (hc0_1 : l0_1.length ≤ c0_1) (h : impl_ChanOk.f a0_0 l0_1 a0_2 = some r) :
  Calls Try.prog 54 #[.agg #[.int .i64 a0_0,.slice A0_1 l0_1.length c0_1,.bool a0_2]] w fun e w' => e = .returned (.bool r) ∧ Below w.heap.size w w' := by
 have hu94 := Try.underlying94
 have HR0_1 := aM_ hr0_1
 have HC0_1 := aM_ hc0_1
 clear hr0_1 hc0_1
 have HB := aM_ (Below.refl w.heap.size w)
 have H : ((impl_within.f a0_0 1 4).bind fun t381 => (if t381 = true then (some (decide ((l0_1.length : Int) ≤ a0_0))) else (some false))) = some r := h
 clear h
 replace H := Option.bind_eq_some_iff.mp H
 obtain ⟨t381,A20,H⟩ := H
 replace H : (if t381 = true then (some (decide ((l0_1.length : Int) ≤ a0_0))) else (some false)) = some r := H
 have A2 := aM_ A20
 clear A20
 by_cases c3 : t381 = true
 ·subst c3
  have H1 : (some (decide ((l0_1.length : Int) ≤ a0_0))) = some r := by rw [if_pos rfl] at H;exact H
  clear H
  have H := H1
  clear H1
  obtain rfl := Option.some.inj H
  go_enter Try.func54,Try.ntmps54
  go_wp2_with (first | ((with_reducible refine gate_dst (N := 1) rfl ?_);(try (refine gate_guard (by rfl) ?_;dsimp only));refine bX_ 1 (cs := #[.int .i64 a0_0,.slice A0_1 l0_1.length c0_1,.bool a0_2]) (t := 94) ?_;intro gb380 hg w4 hbox hb;have BK380 := aM_ (hbox);have GE380 := aM_ (sZ_ hg HB.out);replace HB := aM_ (sT_ HB.out hb);clear hb hbox hg;have z_5 := bR3_ BK380.out) | ((with_reducible refine gate_callee (f := 106) rfl ?_);refine gL_ (some 5) Try.func106 #[.int .i64 a0_0,.int .i64 1,.int .i64 4] ?_;(with_reducible refine (impl_within.calls a0_0 1 4 true _ A2.out).mono ?_);rintro e w' ⟨rfl,⟨nd,rfl⟩⟩;refine ⟨_,rfl,?_⟩))
  go_ret
  exact fI_ HB.out
 ·replace c3 := Bool.eq_false_iff.mpr c3
  subst c3
  have H1 : (some false) = some r := by rw [if_neg (show ¬ (false = true) by decide)] at H;exact H
  clear H
  have H := H1
  clear H1
  obtain rfl := Option.some.inj H
  go_enter Try.func54,Try.ntmps54
  go_wp2_with (first | ((with_reducible refine gate_dst (N := 1) rfl ?_);(try (refine gate_guard (by rfl) ?_;dsimp only));refine bX_ 1 (cs := #[.int .i64 a0_0,.slice A0_1 l0_1.length c0_1,.bool a0_2]) (t := 94) ?_;intro gb380 hg w6 hbox hb;have BK380 := aM_ (hbox);have GE380 := aM_ (sZ_ hg HB.out);replace HB := aM_ (sT_ HB.out hb);clear hb hbox hg;have z_7 := bR3_ BK380.out) | ((with_reducible refine gate_callee (f := 106) rfl ?_);refine gL_ (some 5) Try.func106 #[.int .i64 a0_0,.int .i64 1,.int .i64 4] ?_;(with_reducible refine (impl_within.calls a0_0 1 4 false _ A2.out).mono ?_);rintro e w' ⟨rfl,⟨nd,rfl⟩⟩;refine ⟨_,rfl,?_⟩))
  go_ret
  exact fI_ HB.out
def impl_capsOk.l0 : Nat → List Int → Int → Int → Option (Bool)
  | 0,_,_,_ => none
  | k + 1,x5,x6,x7 => if x7 < x6 then (if 0 ≤ x7 then (if x7 < (x5.length : Int) then ((impl_within.f (rd x5 x7) 1 4).bind fun t383 => (if t383 = true then (impl_capsOk.l0 k x5 x6 (wrap64 (x7 + 1))) else (some false))) else (none)) else (none)) else (some true)
def impl_capsOk.f (k : Nat) (l0 : List Int) : Option (Bool) := impl_capsOk.l0 k l0 (l0.length : Int) 0
set_option maxHeartbeats 8000000 in
set_option maxRecDepth 100000 in
theorem impl_capsOk.calls (k : Nat) (A0 : Option Addr) (c0 : Nat) (l0 : List Int) (r : Bool) (w : World) (hr0 : Kd.C (Kd.int .i64) w A0 l0.length l0) (hc0 : l0.length ≤ c0) (h : impl_capsOk.f k l0 = some r) :
  Calls Try.prog 109 #[.slice A0 l0.length c0] w fun e w' => e = .returned (.bool r) ∧ Drawn0 w w' := by
 have HR0 := aM_ hr0
 have HC0 := aM_ hc0
 clear hr0 hc0
 have H : (impl_capsOk.l0 k l0 (l0.length : Int) 0) = some r := h
 clear h
 have H' := aM_ H
 clear H
 go_enter Try.func109,Try.ntmps109
 go_wp2
 go_loopg [7] k (fun kq v7 w' => ∃ (x7_1 : Int),v7 = .int .i64 x7_1 ∧ Aside0 (impl_capsOk.l0 kq l0 (l0.length : Int) x7_1 = some r) ∧ Aside0 (kq ≤ k) ∧ Drawn0 w w')
 case atStart => exact ⟨(0),(by first | rfl | (simp;done) | (simp [*];done)),H',⟨Nat.le_refl _⟩,by repeat (first | exact Drawn0.refl _ | apply Drawn0.step)⟩
 case round =>
  clear H'
  try clear c1
  obtain ⟨x7_1,rfl,HA,HK1,⟨m1,rfl⟩⟩ := hrel
  cases gk with
  | zero => exact absurd HA.out (by simp [impl_capsOk.l0])
  | succ k1 =>
   have H := HA.out
   clear HA
   simp only [impl_capsOk.l0] at H
   by_cases c2 : x7_1 < (l0.length : Int)
   ·rw [if_pos c2] at H
    have c2b0 : decide (x7_1 < (l0.length : Int)) = true := decide_eq_true c2
    clear c2
    by_cases c3 : 0 ≤ x7_1
    ·rw [if_pos c3] at H
     have c3b0 : decide (0 ≤ x7_1) = true := decide_eq_true c3
     clear c3
     by_cases c4 : x7_1 < (l0.length : Int)
     ·rw [if_pos c4] at H
      have c4b0 : decide (x7_1 < (l0.length : Int)) = true := decide_eq_true c4
      clear c4
      replace H := Option.bind_eq_some_iff.mp H
      obtain ⟨t383,A50,H⟩ := H
      replace H : (if t383 = true then (impl_capsOk.l0 k1 l0 (l0.length : Int) (wrap64 (x7_1 + 1))) else (some false)) = some r := H
      have A5 := aM_ A50
      clear A50
      by_cases c6 : t383 = true
      ·subst c6
       have H1 : (impl_capsOk.l0 k1 l0 (l0.length : Int) (wrap64 (x7_1 + 1))) = some r := by rw [if_pos rfl] at H;exact H
       clear H
       have H := H1
       clear H1
       have H' := aM_ H
       clear H
       have p382 : 0 ≤ (x7_1 : Int) := of_decide_eq_true (by first | (with_reducible assumption) | assumption)
       have q382 : x7_1 < (l0.length : Int) := of_decide_eq_true (by first | (with_reducible assumption) | assumption)
       obtain ⟨ad382,e382,hx382_0⟩ := Kd.at_int HR0.out x7_1 p382 q382
       cases e382
       replace p382 := eq_true p382
       replace q382 := eq_true q382
       go_wp2_with (first | ((with_reducible refine gate_callee (f := 106) rfl ?_);refine gL_ (some 12) Try.func106 #[.int .i64 (rd l0 x7_1),.int .i64 1,.int .i64 4] ?_;(with_reducible refine (impl_within.calls (rd l0 x7_1) 1 4 true _ A5.out).mono ?_);rintro e w' ⟨rfl,⟨nd,rfl⟩⟩;refine ⟨_,rfl,?_⟩))
       go_roundg k1
       case measure => have := HK1.out;omega
       case rel => exact ⟨(wrap64 (x7_1 + 1)),(by first | rfl | (simp;done) | (simp [*];done)),H',⟨by have := HK1.out;omega⟩,by repeat (first | exact Drawn0.refl _ | apply Drawn0.step)⟩
      ·replace c6 := Bool.eq_false_iff.mpr c6
       subst c6
       have H1 : (some false) = some r := by rw [if_neg (show ¬ (false = true) by decide)] at H;exact H
       clear H
       have H := H1
       clear H1
       obtain rfl := Option.some.inj H
       have p382 : 0 ≤ (x7_1 : Int) := of_decide_eq_true (by first | (with_reducible assumption) | assumption)
       have q382 : x7_1 < (l0.length : Int) := of_decide_eq_true (by first | (with_reducible assumption) | assumption)
       obtain ⟨ad382,e382,hx382_0⟩ := Kd.at_int HR0.out x7_1 p382 q382
       cases e382
       replace p382 := eq_true p382
       replace q382 := eq_true q382
       go_wp2_with (first | ((with_reducible refine gate_callee (f := 106) rfl ?_);refine gL_ (some 12) Try.func106 #[.int .i64 (rd l0 x7_1),.int .i64 1,.int .i64 4] ?_;(with_reducible refine (impl_within.calls (rd l0 x7_1) 1 4 false _ A5.out).mono ?_);rintro e w' ⟨rfl,⟨nd,rfl⟩⟩;refine ⟨_,rfl,?_⟩))
       go_ret
       exact ⟨by first | rfl | (simp;done) | (simp [*];done),by repeat (first | exact Drawn0.refl _ | apply Drawn0.step)⟩
     ·rw [if_neg c4] at H
      exact absurd H (by simp)
    ·rw [if_neg c3] at H
     exact absurd H (by simp)
   ·rw [if_neg c2] at H
    have c2b0 : decide (x7_1 < (l0.length : Int)) = false := decide_eq_false c2
    clear c2
    obtain rfl := Option.some.inj H
    go_wp2
    go_ret
    exact ⟨by first | rfl | (simp;done) | (simp [*];done),by repeat (first | exact Drawn0.refl _ | apply Drawn0.step)⟩
end Go.Proofs.Ytobachfngmpeiaa.PFnExactStuck
namespace Go.Proofs.Ytobachfngmpeiaa.PFnExactStuck
open Go.RowKit Go.Proofs.YtobachfngmpeiaaW.PrintWords Go.Proofs.YtobachfngmpeiaaW.PrintLast Go.Proofs.YtobachfngmpeiaaW.PrintMore
attribute [local go_sem] max2_int min2_int max_two min_two max_three min_three max_four min_four
set_option linter.unusedVariables false
set_option linter.unusedSimpArgs false
def impl_sourceCode.f (_l0_0 : List Int) (l0_1 : List (List S192)) (ts : List S107) (cs : List S94) (ns : List S35) (who : Int) : Option Int :=
  (impl_within.f who 0 (wrap64 ((ts.length : Int) - 1))).bind fun t => if t = true then (if 0 ≤ who then (if who < (ts.length : Int) then (if who < (l0_1.length : Int) then (if 0 ≤ (rd_T107 ts who).f0 then (if (rd_T107 ts who).f0 < ((rd_L4 l0_1 who).length : Int) then
    (if (rd_T107 ts who).f2 = 0 then (if (rd_T192 (rd_L4 l0_1 who) (rd_T107 ts who).f0).f0 = 10 then (if (ns.length : Int) = 4000 then some 3 else some 0) else if (rd_T192 (rd_L4 l0_1 who) (rd_T107 ts who).f0).f0 = 5 then (if 0 ≤ (rd_T192 (rd_L4 l0_1 who) (rd_T107 ts who).f0).f4 then (if (rd_T192 (rd_L4 l0_1 who) (rd_T107 ts who).f0).f4 < (cs.length : Int) then (if (rd_T94 cs (rd_T192 (rd_L4 l0_1 who) (rd_T107 ts who).f0).f4).f2 = true then some 0 else if ((rd_T94 cs (rd_T192 (rd_L4 l0_1 who) (rd_T107 ts who).f0).f4).f1.length : Int) = (rd_T94 cs (rd_T192 (rd_L4 l0_1 who) (rd_T107 ts who).f0).f4).f0 then some 4 else some 0) else none) else none)
      else if (rd_T192 (rd_L4 l0_1 who) (rd_T107 ts who).f0).f0 = 6 then (if 0 ≤ (rd_T192 (rd_L4 l0_1 who) (rd_T107 ts who).f0).f4 then (if (rd_T192 (rd_L4 l0_1 who) (rd_T107 ts who).f0).f4 < (cs.length : Int) then (if (rd_T94 cs (rd_T192 (rd_L4 l0_1 who) (rd_T107 ts who).f0).f4).f2 = true then some 0 else if ((rd_T94 cs (rd_T192 (rd_L4 l0_1 who) (rd_T107 ts who).f0).f4).f1.length : Int) = 0 then some 4 else some 0) else none) else none) else some 0) else some 3)
    else none) else none) else none) else none) else none) else some 2
end Go.Proofs.Ytobachfngmpeiaa.PFnExactStuck
