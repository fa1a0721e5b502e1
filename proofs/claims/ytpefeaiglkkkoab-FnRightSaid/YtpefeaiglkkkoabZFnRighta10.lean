/- A part of the proof that the law FnRight holds for every input: the words, functions and walks that its row needs, without a condition of their own. -/
import Derived.Test.YtpefeaiglkkkoabZFnRighta2
import Derived.Test.YtpefeaiglkkkoabZFnRighta7
import Derived.Test.YtpefeaiglkkkoabZFnRighta8
import Derived.Test.YtpefeaiglkkkoabZFnRighta9
namespace Go.Proofs.Ytpefeaiglkkkoab.PFnRight
open Go.RowKit Go.Proofs.YtpefeaiglkkkoabW.PrintWords Go.Proofs.YtpefeaiglkkkoabW.PrintLast Go.Proofs.YtpefeaiglkkkoabW.PrintMore
attribute [local go_sem] max2_int min2_int max_two min_two max_three min_three max_four min_four   -- for this text's walks alone
set_option linter.unusedVariables false
set_option linter.unusedSimpArgs false
mutual
def spec_DrawBodyOk.j0 : Nat → List (S66) → List Int → Int → Int → Option ((List (S66)) × Int)
  | 0, _, _, _, _ => none
  | k + 1, x5, x319000, x319001, x319002 => (spec_l1Once.f x319000 x319001 x319002 40).bind fun bt339 => (if bt339.1 = true then (spec_DrawBodyOk.l0 k x5 x319000 bt339.2.1 bt339.2.2) else ((spec_l1PickInt.f x319000 bt339.2.1 bt339.2.2 (([2, 2, 2, 1, 3, 4] : List Int))).bind fun bt357 => (some (x5, bt357.1))))
def spec_DrawBodyOk.l0 : Nat → List (S66) → List Int → Int → Int → Option ((List (S66)) × Int)
  | 0, _, _, _, _ => none
  | k + 1, x5, x319000, x319001, x319002 => (spec_l1Below.f x319000 x319001 x319002 2).bind fun bt342 => (if (x5.length : Int) < (wrap64 (24 + bt342.1)) then (if x5.length < 3518437208883 then (spec_DrawBodyOk.l0 k (x5 ++ [(⟨13, 0, 0, 0, 0⟩ : S66)]) x319000 bt342.2.1 bt342.2.2) else (none)) else ((spec_l1PickInt.f x319000 bt342.2.1 bt342.2.2 (([2, 2, 2, 1, 3, 4] : List Int))).bind fun bt351 => (some (x5, bt351.1))))
end
def spec_DrawBodyOk.f (k : Nat) (l0 : List Int) : Option ((List (S66)) × Int) := (spec_l1New.f k l0).bind fun bt315 => ((spec_l1DrawBody.f k bt315.1 bt315.2.1 bt315.2.2 2).bind fun bt319 => ((spec_l1Once.f bt315.1 bt319.2.1 bt319.2.2 4).bind fun bt324 => (if bt324.1 = true then ((spec_l1Below.f bt315.1 bt324.2.1 bt324.2.2 (bt319.1.length : Int)).bind fun bt327 => (if 0 ≤ bt327.1 then (if bt327.1 < (bt319.1.length : Int) then ((spec_l1Spoil.f bt315.1 bt327.2.1 bt327.2.2 ((rd_T66 bt319.1 bt327.1).f0) ((rd_T66 bt319.1 bt327.1).f1) ((rd_T66 bt319.1 bt327.1).f2) ((rd_T66 bt319.1 bt327.1).f3) ((rd_T66 bt319.1 bt327.1).f4)).bind fun bt331 => (spec_DrawBodyOk.j0 k (bt319.1.set (bt327.1 : Int).toNat (⟨bt331.1, bt331.2.1, bt331.2.2.1, bt331.2.2.2.1, bt331.2.2.2.2.1⟩ : S66)) bt315.1 bt331.2.2.2.2.2.1 bt331.2.2.2.2.2.2)) else (none)) else (none))) else (spec_DrawBodyOk.j0 k bt319.1 bt315.1 bt324.2.1 bt324.2.2))))
set_option maxHeartbeats 8000000 in
set_option maxRecDepth 100000 in
theorem spec_DrawBodyOk.calls (k : Nat) (A0 : Option Addr) (c0 : Nat) (l0 : List Int) (r1 : List (S66)) (r2 : Int) (w : World) (hr0 : Kd.C (Kd.int .u8) w A0 l0.length l0) (hc0 : l0.length ≤ c0) (h : spec_DrawBodyOk.f k l0 = some (r1, r2)) :
  Calls Try.prog 45 #[.slice A0 l0.length c0] w fun e w' => ∃ v0_ : Value, e = .returned (.tuple #[v0_, .int .i64 r2]) ∧ Kd.R k66 66 w' w.heap.size (fun _ => True) v0_ r1 ∧ Below w.heap.size w w' := by
 have hu66 := Try.underlying66
 have HR0 := aM_ hr0
 have HC0 := aM_ hc0
 clear hr0 hc0
 have HB := aM_ (Below.refl w.heap.size w)
 have H : ((spec_l1New.f k l0).bind fun bt315 => ((spec_l1DrawBody.f k bt315.1 bt315.2.1 bt315.2.2 2).bind fun bt319 => ((spec_l1Once.f bt315.1 bt319.2.1 bt319.2.2 4).bind fun bt324 => (if bt324.1 = true then ((spec_l1Below.f bt315.1 bt324.2.1 bt324.2.2 (bt319.1.length : Int)).bind fun bt327 => (if 0 ≤ bt327.1 then (if bt327.1 < (bt319.1.length : Int) then ((spec_l1Spoil.f bt315.1 bt327.2.1 bt327.2.2 ((rd_T66 bt319.1 bt327.1).f0) ((rd_T66 bt319.1 bt327.1).f1) ((rd_T66 bt319.1 bt327.1).f2) ((rd_T66 bt319.1 bt327.1).f3) ((rd_T66 bt319.1 bt327.1).f4)).bind fun bt331 => (spec_DrawBodyOk.j0 k (bt319.1.set (bt327.1 : Int).toNat (⟨bt331.1, bt331.2.1, bt331.2.2.1, bt331.2.2.2.1, bt331.2.2.2.2.1⟩ : S66)) bt315.1 bt331.2.2.2.2.2.1 bt331.2.2.2.2.2.2)) else (none)) else (none))) else (spec_DrawBodyOk.j0 k bt319.1 bt315.1 bt324.2.1 bt324.2.2))))) = some (r1, r2) := h
 clear h
 replace H := Option.bind_eq_some_iff.mp H
 obtain ⟨⟨t315, t316, t317⟩, A20, H⟩ := H
 replace H : ((spec_l1DrawBody.f k t315 t316 t317 2).bind fun bt319 => ((spec_l1Once.f t315 bt319.2.1 bt319.2.2 4).bind fun bt324 => (if bt324.1 = true then ((spec_l1Below.f t315 bt324.2.1 bt324.2.2 (bt319.1.length : Int)).bind fun bt327 => (if 0 ≤ bt327.1 then (if bt327.1 < (bt319.1.length : Int) then ((spec_l1Spoil.f t315 bt327.2.1 bt327.2.2 ((rd_T66 bt319.1 bt327.1).f0) ((rd_T66 bt319.1 bt327.1).f1) ((rd_T66 bt319.1 bt327.1).f2) ((rd_T66 bt319.1 bt327.1).f3) ((rd_T66 bt319.1 bt327.1).f4)).bind fun bt331 => (spec_DrawBodyOk.j0 k (bt319.1.set (bt327.1 : Int).toNat (⟨bt331.1, bt331.2.1, bt331.2.2.1, bt331.2.2.2.1, bt331.2.2.2.2.1⟩ : S66)) t315 bt331.2.2.2.2.2.1 bt331.2.2.2.2.2.2)) else (none)) else (none))) else (spec_DrawBodyOk.j0 k bt319.1 t315 bt324.2.1 bt324.2.2)))) = some (r1, r2) := H
 have A2 := aM_ A20
 clear A20
 replace H := Option.bind_eq_some_iff.mp H
 obtain ⟨⟨t319, t322, t323⟩, A30, H⟩ := H
 replace H : ((spec_l1Once.f t315 t322 t323 4).bind fun bt324 => (if bt324.1 = true then ((spec_l1Below.f t315 bt324.2.1 bt324.2.2 (t319.length : Int)).bind fun bt327 => (if 0 ≤ bt327.1 then (if bt327.1 < (t319.length : Int) then ((spec_l1Spoil.f t315 bt327.2.1 bt327.2.2 ((rd_T66 t319 bt327.1).f0) ((rd_T66 t319 bt327.1).f1) ((rd_T66 t319 bt327.1).f2) ((rd_T66 t319 bt327.1).f3) ((rd_T66 t319 bt327.1).f4)).bind fun bt331 => (spec_DrawBodyOk.j0 k (t319.set (bt327.1 : Int).toNat (⟨bt331.1, bt331.2.1, bt331.2.2.1, bt331.2.2.2.1, bt331.2.2.2.2.1⟩ : S66)) t315 bt331.2.2.2.2.2.1 bt331.2.2.2.2.2.2)) else (none)) else (none))) else (spec_DrawBodyOk.j0 k t319 t315 bt324.2.1 bt324.2.2))) = some (r1, r2) := H
 have A3 := aM_ A30
 clear A30
 replace H := Option.bind_eq_some_iff.mp H
 obtain ⟨⟨t324, t325, t326⟩, A40, H⟩ := H
 replace H : (if t324 = true then ((spec_l1Below.f t315 t325 t326 (t319.length : Int)).bind fun bt327 => (if 0 ≤ bt327.1 then (if bt327.1 < (t319.length : Int) then ((spec_l1Spoil.f t315 bt327.2.1 bt327.2.2 ((rd_T66 t319 bt327.1).f0) ((rd_T66 t319 bt327.1).f1) ((rd_T66 t319 bt327.1).f2) ((rd_T66 t319 bt327.1).f3) ((rd_T66 t319 bt327.1).f4)).bind fun bt331 => (spec_DrawBodyOk.j0 k (t319.set (bt327.1 : Int).toNat (⟨bt331.1, bt331.2.1, bt331.2.2.1, bt331.2.2.2.1, bt331.2.2.2.2.1⟩ : S66)) t315 bt331.2.2.2.2.2.1 bt331.2.2.2.2.2.2)) else (none)) else (none))) else (spec_DrawBodyOk.j0 k t319 t315 t325 t326)) = some (r1, r2) := H
 have A4 := aM_ A40
 clear A40
 have HC5 := aM_ H
 clear H
 go_enter Try.func45, Try.ntmps45
 go_upto_if 12 with (first | ((with_reducible refine gate_callee (f := 74) rfl ?_); refine goesL_ (some 8) rfl rfl Try.func74 (by kernel_rfl) rfl #[.slice A0 l0.length c0] rfl (by (try simp only [mT_, mC_, mN_]); first | done | rfl | (simp only [List.length_drop, List.length_take]; rfl)) ?_; (with_reducible refine (spec_l1New.calls k _ _ l0 t315 t316 t317 w _ ?side1 ?side2 ?side3 A2.out).mono ?_); (case side1 => repeat (first | (with_reducible first | exact HB.out | apply below_alloc | apply pw_below_drewN | apply below_drew1) | exact HB.out)); (case side2 => exact HR0.out); (case side3 => exact HC0.out); rintro e w6 ⟨g318, rfl, hi, hb, hb2⟩; refine ⟨_, rfl, ?_⟩; have n0_ := aM_ (hb); have n1_ := aM_ (hi); clear HB; have HB := n0_; have HI318 := n1_; clear n0_ n1_) | ((with_reducible refine gate_callee (f := 105) rfl ?_); refine goesL_ (some 10) rfl rfl Try.func105 (by kernel_rfl) rfl #[.pointer (some ⟨g318, 0, none⟩), .int .i64 2] rfl (by (try simp only [mT_, mC_, mN_]); first | done | rfl | (simp only [List.length_drop, List.length_take]; rfl)) ?_; (with_reducible refine (spec_l1DrawBody.calls k g318 t315 t316 t317 2 t319 t322 t323 w _ ?side1 ?side2 A3.out).mono ?_); (case side1 => repeat (first | (with_reducible first | exact HI318.out | apply IsS155.alloc | apply IsS155.drewN | apply IsS155.drew | apply IsS155.set_1 | apply IsS155.set_2) | exact HI318.out)); (case side2 => repeat (first | (with_reducible first | exact HB.out | apply below_alloc | apply pw_below_drewN | apply below_drew1 | refine below_set ?_ (IsS155.ge HI318.out)) | exact HB.out)); rintro e w7 ⟨v320, rfl, ho0, hi, hb, hk⟩; refine ⟨_, rfl, ?_⟩; have n0_ := aM_ (Kd.R_lower ho0 (below_size (by repeat (first | (with_reducible first | exact HB.out | apply below_alloc | apply pw_below_drewN | apply below_drew1 | refine below_set ?_ (IsS155.ge HI318.out)) | exact HB.out)))); have n1_ := aM_ (hb); have n2_ := aM_ (hi); clear HB; clear HI318; have HO321 := n0_; have HB := n1_; have HI318 := n2_; clear n0_ n1_ n2_; (try clear ho0)) | ((with_reducible refine gate_callee (f := 94) rfl ?_); refine goesL_ (some 12) rfl rfl Try.func94 (by kernel_rfl) rfl #[.pointer (some ⟨g318, 0, none⟩), .int .i64 4] rfl (by (try simp only [mT_, mC_, mN_]); first | done | rfl | (simp only [List.length_drop, List.length_take]; rfl)) ?_; (with_reducible refine (spec_l1Once.calls g318 t315 t322 t323 4 t324 t325 t326 w _ ?side1 ?side2 A4.out).mono ?_); (case side1 => repeat (first | (with_reducible first | exact HI318.out | apply IsS155.alloc | apply IsS155.drewN | apply IsS155.drew | apply IsS155.set_1 | apply IsS155.set_2) | exact HI318.out)); (case side2 => repeat (first | (with_reducible first | exact HB.out | apply below_alloc | apply pw_below_drewN | apply below_drew1 | refine below_set ?_ (IsS155.ge HI318.out)) | exact HB.out)); rintro e w8 ⟨rfl, hi, hb, hk⟩; refine ⟨_, rfl, ?_⟩; have n0_ := aM_ (Kd.R_mono (Kd.R_keep (IsS155.apart (show IsS155 w _ g318 t315 t322 t323 from by repeat (first | (with_reducible first | exact HI318.out | apply IsS155.alloc | apply IsS155.drewN | apply IsS155.drew | apply IsS155.set_1 | apply IsS155.set_2) | exact HI318.out)) (by (with_reducible repeat (first | apply Kd.R_alloc | apply Kd.R_drewN | apply Kd.R_drew)); exact HO321.out) (by decide)) hk (fun _ h => h.2)) (fun _ h => h.1)); have n1_ := aM_ (hb); have n2_ := aM_ (hi); clear HO321; clear HB; clear HI318; have HO321 := n0_; have HB := n1_; have HI318 := n2_; clear n0_ n1_ n2_))
 (try simp only [Act.put, List.setIfInBounds_toArray, List.set_cons_zero, List.set_cons_succ])
 go_cut [] (fun wc => ∃ (kq : Nat) (x5_4 : List (S66)) (x319001_4 : Int) (x319002_4 : Int), Aside0 (spec_DrawBodyOk.j0 kq x5_4 t315 x319001_4 x319002_4 = some (r1, r2)) ∧ Aside0 (kq ≤ k) ∧ Aside0 (Kd.R k66 66 wc w.heap.size (fun _ => True) v320 x5_4) ∧ Aside0 (IsS155 w wc g318 t315 x319001_4 x319002_4) ∧ Aside0 (Below w.heap.size w wc))
 case first =>
  have H := HC5.out
  clear HC5
  by_cases c9 : t324 = true
  ·subst c9
   have H1 : ((spec_l1Below.f t315 t325 t326 (t319.length : Int)).bind fun bt327 => (if 0 ≤ bt327.1 then (if bt327.1 < (t319.length : Int) then ((spec_l1Spoil.f t315 bt327.2.1 bt327.2.2 ((rd_T66 t319 bt327.1).f0) ((rd_T66 t319 bt327.1).f1) ((rd_T66 t319 bt327.1).f2) ((rd_T66 t319 bt327.1).f3) ((rd_T66 t319 bt327.1).f4)).bind fun bt331 => (spec_DrawBodyOk.j0 k (t319.set (bt327.1 : Int).toNat (⟨bt331.1, bt331.2.1, bt331.2.2.1, bt331.2.2.2.1, bt331.2.2.2.2.1⟩ : S66)) t315 bt331.2.2.2.2.2.1 bt331.2.2.2.2.2.2)) else (none)) else (none))) = some (r1, r2) := by rw [if_pos rfl] at H; exact H
   clear H
   have H := H1
   clear H1
   replace H := Option.bind_eq_some_iff.mp H
   obtain ⟨⟨t327, t328, t329⟩, A100, H⟩ := H
   replace H : (if 0 ≤ t327 then (if t327 < (t319.length : Int) then ((spec_l1Spoil.f t315 t328 t329 ((rd_T66 t319 t327).f0) ((rd_T66 t319 t327).f1) ((rd_T66 t319 t327).f2) ((rd_T66 t319 t327).f3) ((rd_T66 t319 t327).f4)).bind fun bt331 => (spec_DrawBodyOk.j0 k (t319.set (t327 : Int).toNat (⟨bt331.1, bt331.2.1, bt331.2.2.1, bt331.2.2.2.1, bt331.2.2.2.2.1⟩ : S66)) t315 bt331.2.2.2.2.2.1 bt331.2.2.2.2.2.2)) else (none)) else (none)) = some (r1, r2) := H
   have A10 := aM_ A100
   clear A100
   by_cases c11 : 0 ≤ t327
   ·rw [if_pos c11] at H
    have c11b0 : decide (0 ≤ t327) = true := decide_eq_true c11
    clear c11
    (first | rw [c11b0] | (simp only [i64_w, i32_w]; rw [c11b0]) | skip)
    by_cases c12 : t327 < (t319.length : Int)
    ·rw [if_pos c12] at H
     have c12b0 : decide (t327 < (t319.length : Int)) = true := decide_eq_true c12
     clear c12
     replace H := Option.bind_eq_some_iff.mp H
     obtain ⟨⟨t331, t332, t333, t334, t335, t336, t337⟩, A130, H⟩ := H
     replace H : (spec_DrawBodyOk.j0 k (t319.set (t327 : Int).toNat (⟨t331, t332, t333, t334, t335⟩ : S66)) t315 t336 t337) = some (r1, r2) := H
     have A13 := aM_ A130
     clear A130
     obtain ⟨y338, hy338⟩ : ∃ y_ : List (S66), y_ = (t319.set (t327 : Int).toNat (⟨t331, t332, t333, t334, t335⟩ : S66)) := ⟨_, rfl⟩
     replace H : (spec_DrawBodyOk.j0 k y338 t315 t336 t337) = some (r1, r2) := by first | (rw [hy338]; with_reducible exact H) | (have H2_ := (Option.bind_some _ _).symm.trans H; rw [hy338]; with_reducible exact H2_) | (have H2_ := (Option.bind_some _ _).symm.trans H; with_reducible exact H2_) | with_reducible exact H | (rw [hy338]; exact H) | exact H
     have Ny338 := aM_ hy338
     clear hy338
     have H' := aM_ H
     clear H
     obtain ⟨Ao15, co15, eo15⟩ := Kd.R_slice HO321.out
     subst eo15
     go_wp2_with (first | ((with_reducible refine gate_callee (f := 76) rfl ?_); refine goesL_ (some 16) rfl rfl Try.func76 (by kernel_rfl) rfl #[.pointer (some ⟨g318, 0, none⟩), .int .i64 (t319.length : Int)] rfl (by (try simp only [mT_, mC_, mN_]); first | done | rfl | (simp only [List.length_drop, List.length_take]; rfl)) ?_; (with_reducible refine (spec_l1Below.calls g318 t315 t325 t326 (t319.length : Int) t327 t328 t329 w _ ?side1 ?side2 A10.out).mono ?_); (case side1 => repeat (first | (with_reducible first | exact HI318.out | apply IsS155.alloc | apply IsS155.drewN | apply IsS155.drew | apply IsS155.set_1 | apply IsS155.set_2) | exact HI318.out)); (case side2 => repeat (first | (with_reducible first | exact HB.out | apply below_alloc | apply pw_below_drewN | apply below_drew1 | refine below_set ?_ (IsS155.ge HI318.out)) | exact HB.out)); rintro e w16 ⟨rfl, hi, hb, hk⟩; refine ⟨_, rfl, ?_⟩; have n0_ := aM_ (Kd.R_mono (Kd.R_keep (IsS155.apart (show IsS155 w _ g318 t315 t325 t326 from by repeat (first | (with_reducible first | exact HI318.out | apply IsS155.alloc | apply IsS155.drewN | apply IsS155.drew | apply IsS155.set_1 | apply IsS155.set_2) | exact HI318.out)) (by (with_reducible repeat (first | apply Kd.R_alloc | apply Kd.R_drewN | apply Kd.R_drew)); exact HO321.out) (by decide)) hk (fun _ h => h.2)) (fun _ h => h.1)); have n1_ := aM_ (hb); have n2_ := aM_ (hi); clear HO321; clear HB; clear HI318; have HO321 := n0_; have HB := n1_; have HI318 := n2_; clear n0_ n1_ n2_; have p330 : 0 ≤ (t327 : Int) := of_decide_eq_true (by first | (with_reducible assumption) | assumption); have q330 : t327 < (t319.length : Int) := of_decide_eq_true (by first | (with_reducible assumption) | assumption); obtain ⟨ad330, e330, hx330_0, hx330_1, hx330_2, hx330_3, hx330_4⟩ := at_T66 (Kd.R_reads' HO321.out).2.2 t327 p330 q330; cases e330; replace p330 := eq_true p330; replace q330 := eq_true q330) | ((with_reducible refine gate_callee (f := 101) rfl ?_); refine goesL_ (some 24) rfl rfl Try.func101 (by kernel_rfl) rfl #[.pointer (some ⟨g318, 0, none⟩), .agg #[.int .i64 ((rd_T66 t319 t327).f0), .int .i64 ((rd_T66 t319 t327).f1), .int .i64 ((rd_T66 t319 t327).f2), .int .i64 ((rd_T66 t319 t327).f3), .int .i64 ((rd_T66 t319 t327).f4)]] rfl (by (try simp only [mT_, mC_, mN_]); first | done | rfl | (simp only [List.length_drop, List.length_take]; rfl)) ?_; (with_reducible refine (spec_l1Spoil.calls g318 t315 t328 t329 ((rd_T66 t319 t327).f0) ((rd_T66 t319 t327).f1) ((rd_T66 t319 t327).f2) ((rd_T66 t319 t327).f3) ((rd_T66 t319 t327).f4) t331 t332 t333 t334 t335 t336 t337 w _ ?side1 ?side2 A13.out).mono ?_); (case side1 => repeat (first | (with_reducible first | exact HI318.out | apply IsS155.alloc | apply IsS155.drewN | apply IsS155.drew | apply IsS155.set_1 | apply IsS155.set_2) | exact HI318.out)); (case side2 => repeat (first | (with_reducible first | exact HB.out | apply below_alloc | apply pw_below_drewN | apply below_drew1 | refine below_set ?_ (IsS155.ge HI318.out)) | exact HB.out)); rintro e w17 ⟨rfl, hi, hb, hk⟩; refine ⟨_, rfl, ?_⟩; have n0_ := aM_ (Kd.R_mono (Kd.R_keep (IsS155.apart (show IsS155 w _ g318 t315 t328 t329 from by repeat (first | (with_reducible first | exact HI318.out | apply IsS155.alloc | apply IsS155.drewN | apply IsS155.drew | apply IsS155.set_1 | apply IsS155.set_2) | exact HI318.out)) (by (with_reducible repeat (first | apply Kd.R_alloc | apply Kd.R_drewN | apply Kd.R_drew)); exact HO321.out) (by decide)) hk (fun _ h => h.2)) (fun _ h => h.1)); have n1_ := aM_ (hb); have n2_ := aM_ (hi); clear HO321; clear HB; clear HI318; have HO321 := n0_; have HB := n1_; have HI318 := n2_; clear n0_ n1_ n2_; have p14 : 0 ≤ (t327 : Int) := of_decide_eq_true (by first | (with_reducible assumption) | assumption); have q14 : (t327 : Int) < ((t319.length : Int) : Int) := of_decide_eq_true (by first | (with_reducible assumption) | assumption); obtain ⟨go14, co14, eo14, gb14, gl14, cl14, HG14⟩ := Kd.R_form HO321.out (by omega); (first | cases eo14 | (injection eo14 with ea_ en_ ec_; (first | subst ea_ | (injection ea_ with ea_; subst ea_)); subst ec_; clear en_)); have GB14 := aM_ gb14; have GG14 := aM_ HG14; clear gb14 gl14 HG14; (first | simp only [add_plain] at hx330_0 | skip); (first | simp only [add_plain] at hx330_1 | skip); (first | simp only [add_plain] at hx330_2 | skip); (first | simp only [add_plain] at hx330_3 | skip); (first | simp only [add_plain] at hx330_4 | skip); obtain ⟨ce14, hcl14, hM14, hcc14, hfr14⟩ := Kd.R_elem HO321.out z66 (t327 : Int) p14 q14; obtain rfl := k66_openM hM14; have hx14_0 : w17.cell? ⟨go14, (t327 : Int).toNat * 5, none⟩ = some (.int .i64 ((rd_T66 t319 t327).f0)) := hcc14 0 _ rfl; have hx14_1 : w17.cell? ⟨go14, (t327 : Int).toNat * 5 + 1, none⟩ = some (.int .i64 ((rd_T66 t319 t327).f1)) := hcc14 1 _ rfl; have hx14_2 : w17.cell? ⟨go14, (t327 : Int).toNat * 5 + 2, none⟩ = some (.int .i64 ((rd_T66 t319 t327).f2)) := hcc14 2 _ rfl; have hx14_3 : w17.cell? ⟨go14, (t327 : Int).toNat * 5 + 3, none⟩ = some (.int .i64 ((rd_T66 t319 t327).f3)) := hcc14 3 _ rfl; have hx14_4 : w17.cell? ⟨go14, (t327 : Int).toNat * 5 + 4, none⟩ = some (.int .i64 ((rd_T66 t319 t327).f4)) := hcc14 4 _ rfl; have hf14_0 : w17.frozen? ⟨go14, (t327 : Int).toNat * 5, none⟩ = false := hfr14 0; have hf14_1 : w17.frozen? ⟨go14, (t327 : Int).toNat * 5 + 1, none⟩ = false := hfr14 1; have hf14_2 : w17.frozen? ⟨go14, (t327 : Int).toNat * 5 + 2, none⟩ = false := hfr14 2; have hf14_3 : w17.frozen? ⟨go14, (t327 : Int).toNat * 5 + 3, none⟩ = false := hfr14 3; have hf14_4 : w17.frozen? ⟨go14, (t327 : Int).toNat * 5 + 4, none⟩ = false := hfr14 4; (try clear hcl14); (try clear hcc14); (try clear hfr14); (try clear hM14); replace p14 := eq_true p14; replace q14 := eq_true q14; have HX18 := aM_ (show Kd.R k66 66 w17 w.heap.size (fun _ => True) (.slice (some ⟨go14, 0, none⟩) t319.length co15) t319 from (by (with_reducible repeat (first | apply Kd.R_alloc | apply Kd.R_drewN | apply Kd.R_drew)); exact HO321.out)); obtain ⟨ce18, hcl18, hM18, hcc18, hfr18⟩ := Kd.R_elem HX18.out z66 (t327 : Int) (of_decide_eq_true (by first | (with_reducible assumption) | assumption)) (by have h_ : (t327 : Int) < ((t319.length : Int) : Int) := of_decide_eq_true (by first | (with_reducible assumption) | assumption); first | exact h_ | (have e_ := (Kd.R_reads' HO321.out).1; omega) | simpa using h_); obtain rfl := k66_openM hM18; have HP18 := Kd.R_seg HX18.out (t327 : Int) (of_decide_eq_true (by first | (with_reducible assumption) | assumption)) (by have h_ : (t327 : Int) < ((t319.length : Int) : Int) := of_decide_eq_true (by first | (with_reducible assumption) | assumption); first | exact h_ | (have e_ := (Kd.R_reads' HO321.out).1; omega) | simpa using h_) (seg := [.int .i64 t331, .int .i64 t332, .int .i64 t333, .int .i64 t334, .int .i64 t335]) (j := 0) hcl18 hcc18 (show 5 ≤ 5 from by decide) (x' := (⟨t331, t332, t333, t334, t335⟩ : S66)) (k66_mkM _ _ _ (⟨t331, t332, t333, t334, t335⟩ : S66) ) (fun _ hk => hk); have hx18_0 := hcc18 0 _ rfl; (try simp only [show (k66).sz = 5 from rfl, Nat.mul_one, Nat.add_zero] at hx18_0); have hf18_0 := hfr18 0; (try simp only [show (k66).sz = 5 from rfl, Nat.mul_one, Nat.add_zero] at hf18_0); have hx18_1 := hcc18 1 _ rfl; (try simp only [show (k66).sz = 5 from rfl, Nat.mul_one, Nat.add_zero] at hx18_1); have hf18_1 := hfr18 1; (try simp only [show (k66).sz = 5 from rfl, Nat.mul_one, Nat.add_zero] at hf18_1); have hx18_2 := hcc18 2 _ rfl; (try simp only [show (k66).sz = 5 from rfl, Nat.mul_one, Nat.add_zero] at hx18_2); have hf18_2 := hfr18 2; (try simp only [show (k66).sz = 5 from rfl, Nat.mul_one, Nat.add_zero] at hf18_2); have hx18_3 := hcc18 3 _ rfl; (try simp only [show (k66).sz = 5 from rfl, Nat.mul_one, Nat.add_zero] at hx18_3); have hf18_3 := hfr18 3; (try simp only [show (k66).sz = 5 from rfl, Nat.mul_one, Nat.add_zero] at hf18_3); have hx18_4 := hcc18 4 _ rfl; (try simp only [show (k66).sz = 5 from rfl, Nat.mul_one, Nat.add_zero] at hx18_4); have hf18_4 := hfr18 4; (try simp only [show (k66).sz = 5 from rfl, Nat.mul_one, Nat.add_zero] at hf18_4); (try clear hcl18); (try clear hcc18); (try clear hfr18); (try clear hM18)) | ((with_reducible refine gate_store (t := 66) (p := 25) rfl ?_); refine store_event (t := 66) (p := 25) (v := ?vo_w19) (w1 := (((((w17.setCell ⟨go14, (t327 : Int).toNat * 5, none⟩ (.int .i64 t331)).setCell ⟨go14, (t327 : Int).toNat * 5 + 1, none⟩ (.int .i64 t332)).setCell ⟨go14, (t327 : Int).toNat * 5 + 2, none⟩ (.int .i64 t333)).setCell ⟨go14, (t327 : Int).toNat * 5 + 3, none⟩ (.int .i64 t334)).setCell ⟨go14, (t327 : Int).toNat * 5 + 4, none⟩ (.int .i64 t335))) ?hg ?ho ?hn ?hr ?_; (case ho => rfl); (case hg => rfl); (case hn => rfl); (case hr => first | (go_simp; done) | (go_simp; rfl)); intro w19 hw; have hg : w17.grownBy w19 (some go14) := (by rw [hw]; exact HP18.2); have hp_ : Kd.R k66 66 w19 w.heap.size (fun _ => True) (.slice (some ⟨go14, 0, none⟩) t319.length co15) y338 := (by rw [hw, Ny338.out]; exact HP18.1); clear HP18; have n0_ := aM_ (IsS155.grown (by repeat (first | (with_reducible first | exact HI318.out | apply IsS155.alloc | apply IsS155.drewN | apply IsS155.drew | apply IsS155.set_1 | apply IsS155.set_2) | exact HI318.out)) hg (IsS155.own_ne HI318.out HO321.out (by decide))); have n1_ := aM_ (hp_); have n2_ := aM_ ((by rw [hw]; exact below_set (below_set (below_set (below_set (below_set (HB.out) GB14.out) GB14.out) GB14.out) GB14.out) GB14.out : Below w.heap.size w w19)); clear HI318; clear HO321; clear HB; have HI318 := n0_; have HO321 := n1_; have HB := n2_; clear n0_ n1_ n2_; clear hg hw hp_))
     go_meet
     case rel => exact ⟨_, (y338), (t336), (t337), H', ⟨by first | omega | exact Nat.le_refl _⟩, ⟨by (with_reducible repeat (first | apply Kd.R_alloc | apply Kd.R_drewN | apply Kd.R_drew)); exact HO321.out⟩, ⟨by repeat (first | (with_reducible first | exact HI318.out | apply IsS155.alloc | apply IsS155.drewN | apply IsS155.drew | apply IsS155.set_1 | apply IsS155.set_2) | exact HI318.out)⟩, ⟨by repeat (first | (with_reducible first | exact HB.out | apply below_alloc | apply pw_below_drewN | apply below_drew1 | refine below_set ?_ (IsS155.ge HI318.out)) | exact HB.out)⟩⟩
    ·rw [if_neg c12] at H
     exact absurd H (by simp)
   ·rw [if_neg c11] at H
    exact absurd H (by simp)
  ·replace c9 := Bool.eq_false_iff.mpr c9
   subst c9
   have H1 : (spec_DrawBodyOk.j0 k t319 t315 t325 t326) = some (r1, r2) := by rw [if_neg (show ¬ (false = true) by decide)] at H; exact H
   clear H
   have H := H1
   clear H1
   have H' := aM_ H
   clear H
   go_wp2
   go_meet
   case rel => exact ⟨_, (t319), (t325), (t326), H', ⟨by first | omega | exact Nat.le_refl _⟩, ⟨by (with_reducible repeat (first | apply Kd.R_alloc | apply Kd.R_drewN | apply Kd.R_drew)); exact HO321.out⟩, ⟨by repeat (first | (with_reducible first | exact HI318.out | apply IsS155.alloc | apply IsS155.drewN | apply IsS155.drew | apply IsS155.set_1 | apply IsS155.set_2) | exact HI318.out)⟩, ⟨by repeat (first | (with_reducible first | exact HB.out | apply below_alloc | apply pw_below_drewN | apply below_drew1 | refine below_set ?_ (IsS155.ge HI318.out)) | exact HB.out)⟩⟩
 case rest =>
  clear HC5
  try clear c1
  try clear p1
  try clear q1
  try clear hx1
  try clear hf1
  try clear p2
  try clear p3
  try clear q3
  try clear hx3
  try clear c4
  try clear c7
  try clear c9
  try clear c10
  try clear c11
  try clear c11b0
  try clear c12
  try clear c12b0
  try clear c14
  try clear p14
  try clear q14
  try clear hx14
  try clear hf14
  try clear c18
  try clear hx18
  try clear hf18
  try clear hx14_0
  try clear hx14_1
  try clear hx14_2
  try clear hx14_3
  try clear hx14_4
  try clear hx18_0
  try clear hx18_1
  try clear hx18_2
  try clear hx18_3
  try clear hx18_4
  try clear hx330_0
  try clear hx330_1
  try clear hx330_2
  try clear hx330_3
  try clear hx330_4
  try clear p14
  try clear p330
  try clear q14
  try clear q330
  obtain ⟨kq, x5_4, x319001_4, x319002_4, HA, HJ4, HO_5, HI318, HB⟩ := hcut
  cases kq with
  | zero => exact absurd HA.out (by simp [spec_DrawBodyOk.j0])
  | succ kj4 =>
   have H := HA.out
   clear HA
   simp only [spec_DrawBodyOk.j0] at H
   replace H := Option.bind_eq_some_iff.mp H
   obtain ⟨⟨t339, t340, t341⟩, A200, H⟩ := H
   replace H : (if t339 = true then (spec_DrawBodyOk.l0 kj4 x5_4 t315 t340 t341) else ((spec_l1PickInt.f t315 t340 t341 (([2, 2, 2, 1, 3, 4] : List Int))).bind fun bt357 => (some (x5_4, bt357.1)))) = some (r1, r2) := H
   have A20 := aM_ A200
   clear A200
   by_cases c21 : t339 = true
   ·subst c21
    have H1 : (spec_DrawBodyOk.l0 kj4 x5_4 t315 t340 t341) = some (r1, r2) := by rw [if_pos rfl] at H; exact H
    clear H
    have H := H1
    clear H1
    have H' := aM_ H
    clear H
    go_wp2_with (first | ((with_reducible refine gate_callee (f := 94) rfl ?_); refine goesL_ (some 27) rfl rfl Try.func94 (by kernel_rfl) rfl #[.pointer (some ⟨g318, 0, none⟩), .int .i64 40] rfl (by (try simp only [mT_, mC_, mN_]); first | done | rfl | (simp only [List.length_drop, List.length_take]; rfl)) ?_; (with_reducible refine (spec_l1Once.calls g318 t315 x319001_4 x319002_4 40 true t340 t341 w _ ?side1 ?side2 A20.out).mono ?_); (case side1 => repeat (first | (with_reducible first | exact HI318.out | apply IsS155.alloc | apply IsS155.drewN | apply IsS155.drew | apply IsS155.set_1 | apply IsS155.set_2) | exact HI318.out)); (case side2 => repeat (first | (with_reducible first | exact HB.out | apply below_alloc | apply pw_below_drewN | apply below_drew1 | refine below_set ?_ (IsS155.ge HI318.out)) | exact HB.out)); rintro e w22 ⟨rfl, hi, hb, hk⟩; refine ⟨_, rfl, ?_⟩; have n0_ := aM_ (Kd.R_mono (Kd.R_keep (IsS155.apart (show IsS155 w _ g318 t315 x319001_4 x319002_4 from by repeat (first | (with_reducible first | exact HI318.out | apply IsS155.alloc | apply IsS155.drewN | apply IsS155.drew | apply IsS155.set_1 | apply IsS155.set_2) | exact HI318.out)) (by (with_reducible repeat (first | apply Kd.R_alloc | apply Kd.R_drewN | apply Kd.R_drew)); exact HO_5.out) (by decide)) hk (fun _ h => h.2)) (fun _ h => h.1)); have n1_ := aM_ (hb); have n2_ := aM_ (hi); clear HO_5; clear HB; clear HI318; have HO_5 := n0_; have HB := n1_; have HI318 := n2_; clear n0_ n1_ n2_))
    try simp only [Act.put, List.setIfInBounds_toArray, List.set_cons_zero, List.set_cons_succ]
    go_loopg [5] kj4 (fun kq v5 w' => ∃ (x5_2 : List (S66)) (x319001_2 : Int) (x319002_2 : Int), Aside0 (spec_DrawBodyOk.l0 kq x5_2 t315 x319001_2 x319002_2 = some (r1, r2)) ∧ Aside0 (kq ≤ kj4) ∧ Aside0 (Kd.R k66 66 w' w.heap.size (fun _ => True) v5 x5_2) ∧ Aside0 (IsS155 w w' g318 t315 x319001_2 x319002_2) ∧ Aside0 (Below w.heap.size w w'))
    case atStart => exact ⟨(x5_4), (t340), (t341), H', ⟨Nat.le_refl _⟩, ⟨by (with_reducible repeat (first | apply Kd.R_alloc | apply Kd.R_drewN | apply Kd.R_drew)); exact HO_5.out⟩, ⟨by repeat (first | (with_reducible first | exact HI318.out | apply IsS155.alloc | apply IsS155.drewN | apply IsS155.drew | apply IsS155.set_1 | apply IsS155.set_2) | exact HI318.out)⟩, ⟨by repeat (first | (with_reducible first | exact HB.out | apply below_alloc | apply pw_below_drewN | apply below_drew1 | refine below_set ?_ (IsS155.ge HI318.out)) | exact HB.out)⟩⟩
    case round =>
     clear H'
     try clear c1
     try clear p1
     try clear q1
     try clear hx1
     try clear hf1
     try clear c2
     try clear p2
     try clear p3
     try clear q3
     try clear hx3
     try clear c4
     try clear c7
     try clear c9
     try clear c10
     try clear c11
     try clear c11b0
     try clear c12
     try clear c12b0
     try clear c14
     try clear p14
     try clear q14
     try clear hx14
     try clear hf14
     try clear c18
     try clear hx18
     try clear hf18
     try clear c21
     try clear hx14_0
     try clear hx14_1
     try clear hx14_2
     try clear hx14_3
     try clear hx14_4
     try clear hx18_0
     try clear hx18_1
     try clear hx18_2
     try clear hx18_3
     try clear hx18_4
     try clear hx330_0
     try clear hx330_1
     try clear hx330_2
     try clear hx330_3
     try clear hx330_4
     try clear p1
     try clear p14
     try clear p2
     try clear p3
     try clear p330
     try clear q1
     try clear q14
     try clear q3
     try clear q330
     obtain ⟨x5_2, x319001_2, x319002_2, HA, HK2, HO_5, HI318, HB⟩ := hrel
     cases gk with
     | zero => exact absurd HA.out (by simp [spec_DrawBodyOk.l0])
     | succ k2 =>
      have H := HA.out
      clear HA
      simp only [spec_DrawBodyOk.l0] at H
      replace H := Option.bind_eq_some_iff.mp H
      obtain ⟨⟨t342, t343, t344⟩, A230, H⟩ := H
      replace H : (if (x5_2.length : Int) < (wrap64 (24 + t342)) then (if x5_2.length < 3518437208883 then (spec_DrawBodyOk.l0 k2 (x5_2 ++ [(⟨13, 0, 0, 0, 0⟩ : S66)]) t315 t343 t344) else (none)) else ((spec_l1PickInt.f t315 t343 t344 (([2, 2, 2, 1, 3, 4] : List Int))).bind fun bt351 => (some (x5_2, bt351.1)))) = some (r1, r2) := H
      have A23 := aM_ A230
      clear A230
      by_cases c24 : (x5_2.length : Int) < (wrap64 (24 + t342))
      ·rw [if_pos c24] at H
       have c24b0 : decide ((x5_2.length : Int) < (wrap64 (24 + t342))) = true := decide_eq_true c24
       clear c24
       by_cases c25 : x5_2.length < 3518437208883
       ·rw [if_pos c25] at H
        have LMc25 := aM_ c25
        clear c25
        obtain ⟨y345, hy345⟩ : ∃ y_ : List (S66), y_ = (x5_2 ++ [(⟨13, 0, 0, 0, 0⟩ : S66)]) := ⟨_, rfl⟩
        replace H : (spec_DrawBodyOk.l0 k2 y345 t315 t343 t344) = some (r1, r2) := by first | (rw [hy345]; with_reducible exact H) | (have H2_ := (Option.bind_some _ _).symm.trans H; rw [hy345]; with_reducible exact H2_) | (have H2_ := (Option.bind_some _ _).symm.trans H; with_reducible exact H2_) | with_reducible exact H | (rw [hy345]; exact H) | exact H
        have Ny345 := aM_ hy345
        clear hy345
        have H' := aM_ H
        clear H
        obtain ⟨Ao26, co26, eo26⟩ := Kd.R_slice HO_5.out
        subst eo26
        go_wp2_with (first | ((with_reducible refine gate_callee (f := 76) rfl ?_); refine goesL_ (some 31) rfl rfl Try.func76 (by kernel_rfl) rfl #[.pointer (some ⟨g318, 0, none⟩), .int .i64 2] rfl (by (try simp only [mT_, mC_, mN_]); first | done | rfl | (simp only [List.length_drop, List.length_take]; rfl)) ?_; (with_reducible refine (spec_l1Below.calls g318 t315 x319001_2 x319002_2 2 t342 t343 t344 w _ ?side1 ?side2 A23.out).mono ?_); (case side1 => repeat (first | (with_reducible first | exact HI318.out | apply IsS155.alloc | apply IsS155.drewN | apply IsS155.drew | apply IsS155.set_1 | apply IsS155.set_2) | exact HI318.out)); (case side2 => repeat (first | (with_reducible first | exact HB.out | apply below_alloc | apply pw_below_drewN | apply below_drew1 | refine below_set ?_ (IsS155.ge HI318.out)) | exact HB.out)); rintro e w27 ⟨rfl, hi, hb, hk⟩; refine ⟨_, rfl, ?_⟩; have n0_ := aM_ (Kd.R_mono (Kd.R_keep (IsS155.apart (show IsS155 w _ g318 t315 x319001_2 x319002_2 from by repeat (first | (with_reducible first | exact HI318.out | apply IsS155.alloc | apply IsS155.drewN | apply IsS155.drew | apply IsS155.set_1 | apply IsS155.set_2) | exact HI318.out)) (by (with_reducible repeat (first | apply Kd.R_alloc | apply Kd.R_drewN | apply Kd.R_drew)); exact HO_5.out) (by decide)) hk (fun _ h => h.2)) (fun _ h => h.1)); have n1_ := aM_ (hb); have n2_ := aM_ (hi); clear HO_5; clear HB; clear HI318; have HO_5 := n0_; have HB := n1_; have HI318 := n2_; clear n0_ n1_ n2_) | ((with_reducible refine gate_builtin (b := .append) (xs := #[.tmp 34, .tmp 36]) rfl ?_); at_builtin; refine Kd.R_append k66 (w0 := w) w.heap.size rfl (.tmp 34) (.tmp 36) 70 66 (.agg #[(.int .i64 0), (.int .i64 0), (.int .i64 0), (.int .i64 0), (.int .i64 0)]) 40 rfl Try.underlying70 info66 rfl (by decide) (by omega) (.slice Ao26 x5_2.length co26) x5_2 (⟨13, 0, 0, 0, 0⟩ : S66) [.int .i64 13, .int .i64 0, .int .i64 0, .int .i64 0, .int .i64 0] (fun _ => True) (fun _ => False) rfl rfl ?aP (fun _ hk => hk.elim) ?aF ?aO ?aB ?aS ?aL ?_; (case aP => exact k66_mkM _ _ _ (⟨13, 0, 0, 0, 0⟩ : S66)); (case aB => exact (by repeat (first | (with_reducible first | exact HB.out | apply below_alloc | apply pw_below_drewN | apply below_drew1 | refine below_set ?_ (IsS155.ge HI318.out)) | exact HB.out))); (case aF => exact (fun _ _ => trivial)); (case aO => exact (by (with_reducible repeat (first | apply Kd.R_alloc | apply Kd.R_drewN | apply Kd.R_drew)); exact HO_5.out)); (case aS => exact (below_size (by repeat (first | (with_reducible first | exact HB.out | apply below_alloc | apply pw_below_drewN | apply below_drew1 | refine below_set ?_ (IsS155.ge HI318.out)) | exact HB.out)))); (case aL => have := LMc25.out; omega); intro v346 w28 ho hb hg hat; rw [← Ny345.out] at ho; have n0_ := aM_ (IsS155.grown (by repeat (first | (with_reducible first | exact HI318.out | apply IsS155.alloc | apply IsS155.drewN | apply IsS155.drew | apply IsS155.set_1 | apply IsS155.set_2) | exact HI318.out)) hg (IsS155.own_ne HI318.out HO_5.out (by decide))); have n1_ := aM_ (hb); have n2_ := aM_ (ho); clear HI318; clear HB; clear HO_5; have HI318 := n0_; have HB := n1_; have HO347 := n2_; clear n0_ n1_ n2_; clear ho hb hg hat))
        go_roundg k2
        case measure => have := HJ4.out; have := HK2.out; omega
        case rel => exact ⟨(y345), (t343), (t344), H', ⟨by have := HJ4.out; have := HK2.out; omega⟩, ⟨by (with_reducible repeat (first | apply Kd.R_alloc | apply Kd.R_drewN | apply Kd.R_drew)); exact HO347.out⟩, ⟨by repeat (first | (with_reducible first | exact HI318.out | apply IsS155.alloc | apply IsS155.drewN | apply IsS155.drew | apply IsS155.set_1 | apply IsS155.set_2) | exact HI318.out)⟩, ⟨by repeat (first | (with_reducible first | exact HB.out | apply below_alloc | apply pw_below_drewN | apply below_drew1 | refine below_set ?_ (IsS155.ge HI318.out)) | exact HB.out)⟩⟩
       ·rw [if_neg c25] at H
        exact absurd H (by simp)
      ·rw [if_neg c24] at H
       have c24b0 : decide ((x5_2.length : Int) < (wrap64 (24 + t342))) = false := decide_eq_false c24
       clear c24
       obtain ⟨y348, hy348⟩ : ∃ y_ : List Int, y_ = (([2, 2, 2, 1, 3, 4] : List Int)) := ⟨_, rfl⟩
       replace H : ((spec_l1PickInt.f t315 t343 t344 y348).bind fun bt351 => (some (x5_2, bt351.1))) = some (r1, r2) := by first | (rw [hy348]; with_reducible exact H) | (have H2_ := (Option.bind_some _ _).symm.trans H; rw [hy348]; with_reducible exact H2_) | (have H2_ := (Option.bind_some _ _).symm.trans H; with_reducible exact H2_) | with_reducible exact H | (rw [hy348]; exact H) | exact H
       have Ny348 := aM_ hy348
       clear hy348
       replace H := Option.bind_eq_some_iff.mp H
       obtain ⟨⟨t351, t352, t353⟩, A290, H⟩ := H
       replace H : (some (x5_2, t351)) = some (r1, r2) := H
       have A29 := aM_ A290
       clear A290
       simp only [Option.some.injEq, Prod.mk.injEq] at H
       obtain ⟨rfl, rfl⟩ := H
       obtain ⟨Ao30, co30, eo30⟩ := Kd.R_slice HO_5.out
       subst eo30
       go_wp2_with (first | ((with_reducible refine gate_callee (f := 76) rfl ?_); refine goesL_ (some 31) rfl rfl Try.func76 (by kernel_rfl) rfl #[.pointer (some ⟨g318, 0, none⟩), .int .i64 2] rfl (by (try simp only [mT_, mC_, mN_]); first | done | rfl | (simp only [List.length_drop, List.length_take]; rfl)) ?_; (with_reducible refine (spec_l1Below.calls g318 t315 x319001_2 x319002_2 2 t342 t343 t344 w _ ?side1 ?side2 A23.out).mono ?_); (case side1 => repeat (first | (with_reducible first | exact HI318.out | apply IsS155.alloc | apply IsS155.drewN | apply IsS155.drew | apply IsS155.set_1 | apply IsS155.set_2) | exact HI318.out)); (case side2 => repeat (first | (with_reducible first | exact HB.out | apply below_alloc | apply pw_below_drewN | apply below_drew1 | refine below_set ?_ (IsS155.ge HI318.out)) | exact HB.out)); rintro e w31 ⟨rfl, hi, hb, hk⟩; refine ⟨_, rfl, ?_⟩; have n0_ := aM_ (Kd.R_mono (Kd.R_keep (IsS155.apart (show IsS155 w _ g318 t315 x319001_2 x319002_2 from by repeat (first | (with_reducible first | exact HI318.out | apply IsS155.alloc | apply IsS155.drewN | apply IsS155.drew | apply IsS155.set_1 | apply IsS155.set_2) | exact HI318.out)) (by (with_reducible repeat (first | apply Kd.R_alloc | apply Kd.R_drewN | apply Kd.R_drew)); exact HO_5.out) (by decide)) hk (fun _ h => h.2)) (fun _ h => h.1)); have n1_ := aM_ (hb); have n2_ := aM_ (hi); clear HO_5; clear HB; clear HI318; have HO_5 := n0_; have HB := n1_; have HI318 := n2_; clear n0_ n1_ n2_) | ((with_reducible refine gate_dst (N := 40) rfl ?_); refine Kd.R_lit (Kd.int .i64) _ 3 ?hg (N := 40) ?hd (xs := ([2, 2, 2, 1, 3, 4] : List Int)) (inner := [.int .i64 2, .int .i64 2, .int .i64 2, .int .i64 1, .int .i64 3, .int .i64 4]) (ok := fun _ => True) (okp := fun _ => True) ?hr ?hp (fun _ hk => hk) trivial (Below.refl _ _) (Nat.le_refl _) (by simp) ?_; (case hd => rfl); (case hg => rfl); (case hr => first | (go_simp; done) | (go_simp; rfl)); (case hp => exact (Reps.one (show Kd.M (Kd.int .i64) _ _ _ 2 [.int .i64 2] from rfl) (Reps.one (show Kd.M (Kd.int .i64) _ _ _ 2 [.int .i64 2] from rfl) (Reps.one (show Kd.M (Kd.int .i64) _ _ _ 2 [.int .i64 2] from rfl) (Reps.one (show Kd.M (Kd.int .i64) _ _ _ 1 [.int .i64 1] from rfl) (Reps.one (show Kd.M (Kd.int .i64) _ _ _ 3 [.int .i64 3] from rfl) (Reps.one (show Kd.M (Kd.int .i64) _ _ _ 4 [.int .i64 4] from rfl) (Reps.none _ _)))))))); intro v349 w32 ho33 hb hg_ hnew_; clear hg_ hnew_; (first | rw [← Ny348.out] at ho33 | (simp only [Int.reduceToNat] at ho33; rw [← Ny348.out] at ho33)); have n0_ := aM_ (Kd.R_below (by (with_reducible repeat (first | apply Kd.R_alloc | apply Kd.R_drewN | apply Kd.R_drew)); exact HO_5.out) hb); have n1_ := aM_ (Kd.R_lower ho33 (below_size (by repeat (first | (with_reducible first | exact HB.out | apply below_alloc | apply pw_below_drewN | apply below_drew1 | refine below_set ?_ (IsS155.ge HI318.out)) | exact HB.out)))); have n2_ := aM_ (IsS155.below (by repeat (first | (with_reducible first | exact HI318.out | apply IsS155.alloc | apply IsS155.drewN | apply IsS155.drew | apply IsS155.set_1 | apply IsS155.set_2) | exact HI318.out)) hb); have n3_ := aM_ (below_step (by repeat (first | (with_reducible first | exact HB.out | apply below_alloc | apply pw_below_drewN | apply below_drew1 | refine below_set ?_ (IsS155.ge HI318.out)) | exact HB.out)) hb); clear HO_5; clear HI318; clear HB; have HO_5 := n0_; have HO350 := n1_; have HI318 := n2_; have HB := n3_; clear n0_ n1_ n2_ n3_; clear hb ho33; obtain ⟨Ao34, co34, eo34⟩ := Kd.R_slice HO350.out; subst eo34) | ((with_reducible refine gate_callee (f := 77) rfl ?_); refine goesL_ (some 41) rfl rfl Try.func77 (by kernel_rfl) rfl #[.pointer (some ⟨g318, 0, none⟩), .slice Ao34 y348.length co34] rfl (by (try simp only [mT_, mC_, mN_]); first | done | rfl | (simp only [List.length_drop, List.length_take]; rfl)) ?_; (with_reducible refine (spec_l1PickInt.calls g318 t315 t343 t344 _ _ y348 t351 t352 t353 w _ ?side1 ?side2 ?side3 ?side4 ?side5 A29.out).mono ?_); (case side1 => repeat (first | (with_reducible first | exact HI318.out | apply IsS155.alloc | apply IsS155.drewN | apply IsS155.drew | apply IsS155.set_1 | apply IsS155.set_2) | exact HI318.out)); (case side2 => repeat (first | (with_reducible first | exact HB.out | apply below_alloc | apply pw_below_drewN | apply below_drew1 | refine below_set ?_ (IsS155.ge HI318.out)) | exact HB.out)); (case side3 => repeat (first | exact (Kd.R_reads' HO350.out).2.2 | (with_reducible refine Kd.C_alloc ?_ _) | (with_reducible refine Kd.C_drewN ?_ _) | (with_reducible refine Kd.C_drew ?_))); (case side4 => exact (Kd.R_reads' HO350.out).2.1); (case side5 => exact far_slice (IsS155.own_ne HI318.out HO350.out (by decide))); rintro e w35 ⟨rfl, hi, hb, hk⟩; refine ⟨_, rfl, ?_⟩; have n0_ := aM_ (Kd.R_mono (Kd.R_keep (IsS155.apart (show IsS155 w _ g318 t315 t343 t344 from by repeat (first | (with_reducible first | exact HI318.out | apply IsS155.alloc | apply IsS155.drewN | apply IsS155.drew | apply IsS155.set_1 | apply IsS155.set_2) | exact HI318.out)) (by (with_reducible repeat (first | apply Kd.R_alloc | apply Kd.R_drewN | apply Kd.R_drew)); exact HO_5.out) (by decide)) hk (fun _ h => h.2)) (fun _ h => h.1)); have n1_ := aM_ (Kd.R_mono (Kd.R_keep (IsS155.apart (show IsS155 w _ g318 t315 t343 t344 from by repeat (first | (with_reducible first | exact HI318.out | apply IsS155.alloc | apply IsS155.drewN | apply IsS155.drew | apply IsS155.set_1 | apply IsS155.set_2) | exact HI318.out)) (by (with_reducible repeat (first | apply Kd.R_alloc | apply Kd.R_drewN | apply Kd.R_drew)); exact HO350.out) (by decide)) hk (fun _ h => h.2)) (fun _ h => h.1)); have n2_ := aM_ (hb); have n3_ := aM_ (hi); clear HO_5; clear HO350; clear HB; clear HI318; have HO_5 := n0_; have HO350 := n1_; have HB := n2_; have HI318 := n3_; clear n0_ n1_ n2_ n3_))
       go_ret2
       exact ⟨_, by first | rfl | (simp [errW_none, errW_some] <;> rfl) | (simp [*, errW_none, errW_some] <;> rfl), by (with_reducible repeat (first | apply Kd.R_alloc | apply Kd.R_drewN | apply Kd.R_drew)); exact HO_5.out, by repeat (first | (with_reducible first | exact HB.out | apply below_alloc | apply pw_below_drewN | apply below_drew1 | refine below_set ?_ (IsS155.ge HI318.out)) | exact HB.out)⟩
   ·replace c21 := Bool.eq_false_iff.mpr c21
    subst c21
    have H1 : ((spec_l1PickInt.f t315 t340 t341 (([2, 2, 2, 1, 3, 4] : List Int))).bind fun bt357 => (some (x5_4, bt357.1))) = some (r1, r2) := by rw [if_neg (show ¬ (false = true) by decide)] at H; exact H
    clear H
    have H := H1
    clear H1
    obtain ⟨y354, hy354⟩ : ∃ y_ : List Int, y_ = (([2, 2, 2, 1, 3, 4] : List Int)) := ⟨_, rfl⟩
    replace H : ((spec_l1PickInt.f t315 t340 t341 y354).bind fun bt357 => (some (x5_4, bt357.1))) = some (r1, r2) := by first | (rw [hy354]; with_reducible exact H) | (have H2_ := (Option.bind_some _ _).symm.trans H; rw [hy354]; with_reducible exact H2_) | (have H2_ := (Option.bind_some _ _).symm.trans H; with_reducible exact H2_) | with_reducible exact H | (rw [hy354]; exact H) | exact H
    have Ny354 := aM_ hy354
    clear hy354
    replace H := Option.bind_eq_some_iff.mp H
    obtain ⟨⟨t357, t358, t359⟩, A360, H⟩ := H
    replace H : (some (x5_4, t357)) = some (r1, r2) := H
    have A36 := aM_ A360
    clear A360
    simp only [Option.some.injEq, Prod.mk.injEq] at H
    obtain ⟨rfl, rfl⟩ := H
    go_wp2_with (first | ((with_reducible refine gate_callee (f := 94) rfl ?_); refine goesL_ (some 27) rfl rfl Try.func94 (by kernel_rfl) rfl #[.pointer (some ⟨g318, 0, none⟩), .int .i64 40] rfl (by (try simp only [mT_, mC_, mN_]); first | done | rfl | (simp only [List.length_drop, List.length_take]; rfl)) ?_; (with_reducible refine (spec_l1Once.calls g318 t315 x319001_4 x319002_4 40 false t340 t341 w _ ?side1 ?side2 A20.out).mono ?_); (case side1 => repeat (first | (with_reducible first | exact HI318.out | apply IsS155.alloc | apply IsS155.drewN | apply IsS155.drew | apply IsS155.set_1 | apply IsS155.set_2) | exact HI318.out)); (case side2 => repeat (first | (with_reducible first | exact HB.out | apply below_alloc | apply pw_below_drewN | apply below_drew1 | refine below_set ?_ (IsS155.ge HI318.out)) | exact HB.out)); rintro e w37 ⟨rfl, hi, hb, hk⟩; refine ⟨_, rfl, ?_⟩; have n0_ := aM_ (Kd.R_mono (Kd.R_keep (IsS155.apart (show IsS155 w _ g318 t315 x319001_4 x319002_4 from by repeat (first | (with_reducible first | exact HI318.out | apply IsS155.alloc | apply IsS155.drewN | apply IsS155.drew | apply IsS155.set_1 | apply IsS155.set_2) | exact HI318.out)) (by (with_reducible repeat (first | apply Kd.R_alloc | apply Kd.R_drewN | apply Kd.R_drew)); exact HO_5.out) (by decide)) hk (fun _ h => h.2)) (fun _ h => h.1)); have n1_ := aM_ (hb); have n2_ := aM_ (hi); clear HO_5; clear HB; clear HI318; have HO_5 := n0_; have HB := n1_; have HI318 := n2_; clear n0_ n1_ n2_) | ((with_reducible refine gate_dst (N := 40) rfl ?_); refine Kd.R_lit (Kd.int .i64) _ 3 ?hg (N := 40) ?hd (xs := ([2, 2, 2, 1, 3, 4] : List Int)) (inner := [.int .i64 2, .int .i64 2, .int .i64 2, .int .i64 1, .int .i64 3, .int .i64 4]) (ok := fun _ => True) (okp := fun _ => True) ?hr ?hp (fun _ hk => hk) trivial (Below.refl _ _) (Nat.le_refl _) (by simp) ?_; (case hd => rfl); (case hg => rfl); (case hr => first | (go_simp; done) | (go_simp; rfl)); (case hp => exact (Reps.one (show Kd.M (Kd.int .i64) _ _ _ 2 [.int .i64 2] from rfl) (Reps.one (show Kd.M (Kd.int .i64) _ _ _ 2 [.int .i64 2] from rfl) (Reps.one (show Kd.M (Kd.int .i64) _ _ _ 2 [.int .i64 2] from rfl) (Reps.one (show Kd.M (Kd.int .i64) _ _ _ 1 [.int .i64 1] from rfl) (Reps.one (show Kd.M (Kd.int .i64) _ _ _ 3 [.int .i64 3] from rfl) (Reps.one (show Kd.M (Kd.int .i64) _ _ _ 4 [.int .i64 4] from rfl) (Reps.none _ _)))))))); intro v355 w38 ho39 hb hg_ hnew_; clear hg_ hnew_; (first | rw [← Ny354.out] at ho39 | (simp only [Int.reduceToNat] at ho39; rw [← Ny354.out] at ho39)); have n0_ := aM_ (Kd.R_below (by (with_reducible repeat (first | apply Kd.R_alloc | apply Kd.R_drewN | apply Kd.R_drew)); exact HO_5.out) hb); have n1_ := aM_ (Kd.R_lower ho39 (below_size (by repeat (first | (with_reducible first | exact HB.out | apply below_alloc | apply pw_below_drewN | apply below_drew1 | refine below_set ?_ (IsS155.ge HI318.out)) | exact HB.out)))); have n2_ := aM_ (IsS155.below (by repeat (first | (with_reducible first | exact HI318.out | apply IsS155.alloc | apply IsS155.drewN | apply IsS155.drew | apply IsS155.set_1 | apply IsS155.set_2) | exact HI318.out)) hb); have n3_ := aM_ (below_step (by repeat (first | (with_reducible first | exact HB.out | apply below_alloc | apply pw_below_drewN | apply below_drew1 | refine below_set ?_ (IsS155.ge HI318.out)) | exact HB.out)) hb); clear HO_5; clear HI318; clear HB; have HO_5 := n0_; have HO356 := n1_; have HI318 := n2_; have HB := n3_; clear n0_ n1_ n2_ n3_; clear hb ho39; obtain ⟨Ao40, co40, eo40⟩ := Kd.R_slice HO356.out; subst eo40) | ((with_reducible refine gate_callee (f := 77) rfl ?_); refine goesL_ (some 41) rfl rfl Try.func77 (by kernel_rfl) rfl #[.pointer (some ⟨g318, 0, none⟩), .slice Ao40 y354.length co40] rfl (by (try simp only [mT_, mC_, mN_]); first | done | rfl | (simp only [List.length_drop, List.length_take]; rfl)) ?_; (with_reducible refine (spec_l1PickInt.calls g318 t315 t340 t341 _ _ y354 t357 t358 t359 w _ ?side1 ?side2 ?side3 ?side4 ?side5 A36.out).mono ?_); (case side1 => repeat (first | (with_reducible first | exact HI318.out | apply IsS155.alloc | apply IsS155.drewN | apply IsS155.drew | apply IsS155.set_1 | apply IsS155.set_2) | exact HI318.out)); (case side2 => repeat (first | (with_reducible first | exact HB.out | apply below_alloc | apply pw_below_drewN | apply below_drew1 | refine below_set ?_ (IsS155.ge HI318.out)) | exact HB.out)); (case side3 => repeat (first | exact (Kd.R_reads' HO356.out).2.2 | (with_reducible refine Kd.C_alloc ?_ _) | (with_reducible refine Kd.C_drewN ?_ _) | (with_reducible refine Kd.C_drew ?_))); (case side4 => exact (Kd.R_reads' HO356.out).2.1); (case side5 => exact far_slice (IsS155.own_ne HI318.out HO356.out (by decide))); rintro e w41 ⟨rfl, hi, hb, hk⟩; refine ⟨_, rfl, ?_⟩; have n0_ := aM_ (Kd.R_mono (Kd.R_keep (IsS155.apart (show IsS155 w _ g318 t315 t340 t341 from by repeat (first | (with_reducible first | exact HI318.out | apply IsS155.alloc | apply IsS155.drewN | apply IsS155.drew | apply IsS155.set_1 | apply IsS155.set_2) | exact HI318.out)) (by (with_reducible repeat (first | apply Kd.R_alloc | apply Kd.R_drewN | apply Kd.R_drew)); exact HO_5.out) (by decide)) hk (fun _ h => h.2)) (fun _ h => h.1)); have n1_ := aM_ (Kd.R_mono (Kd.R_keep (IsS155.apart (show IsS155 w _ g318 t315 t340 t341 from by repeat (first | (with_reducible first | exact HI318.out | apply IsS155.alloc | apply IsS155.drewN | apply IsS155.drew | apply IsS155.set_1 | apply IsS155.set_2) | exact HI318.out)) (by (with_reducible repeat (first | apply Kd.R_alloc | apply Kd.R_drewN | apply Kd.R_drew)); exact HO356.out) (by decide)) hk (fun _ h => h.2)) (fun _ h => h.1)); have n2_ := aM_ (hb); have n3_ := aM_ (hi); clear HO_5; clear HO356; clear HB; clear HI318; have HO_5 := n0_; have HO356 := n1_; have HB := n2_; have HI318 := n3_; clear n0_ n1_ n2_ n3_))
    go_ret2
    exact ⟨_, by first | rfl | (simp [errW_none, errW_some] <;> rfl) | (simp [*, errW_none, errW_some] <;> rfl), by (with_reducible repeat (first | apply Kd.R_alloc | apply Kd.R_drewN | apply Kd.R_drew)); exact HO_5.out, by repeat (first | (with_reducible first | exact HB.out | apply below_alloc | apply pw_below_drewN | apply below_drew1 | refine below_set ?_ (IsS155.ge HI318.out)) | exact HB.out)⟩
end Go.Proofs.Ytpefeaiglkkkoab.PFnRight
