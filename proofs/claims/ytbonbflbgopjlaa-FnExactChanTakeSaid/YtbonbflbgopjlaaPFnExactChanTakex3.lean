import Derived.Test.YtbonbflbgopjlaaPFnExactChanTakex0
import Derived.Test.YtbonbflbgopjlaaPFnExactChanTakex1
import Derived.Test.YtbonbflbgopjlaaPFnExactChanTakex2
namespace Go.Proofs.Ytbonbflbgopjlaa.PFnExactChanTake
open Go.RowKit Go.Proofs.YtbonbflbgopjlaaW.PrintWords Go.Proofs.YtbonbflbgopjlaaW.PrintLast Go.Proofs.YtbonbflbgopjlaaW.PrintMore
attribute [local go_sem] max2_int min2_int max_two min_two max_three min_three max_four min_four   -- for this text's walks alone
set_option linter.unusedVariables false
set_option linter.unusedSimpArgs false

/-! ### laws_FnExactChanTake: function 4 -/
mutual
def laws_FnExactChanTake.j0 : Nat → Int → Int → Int → Int → Bool → Int → List Int → Bool → Int → List Int → Bool → Int → List Int → Bool → Int → List Int → Bool → Option (Bool)
  | 0, _, _, _, _, _, _, _, _, _, _, _, _, _, _, _, _, _ => none
  | k + 1, x5, x6, x9, x10, x50, x180000, x180001, x180002, x194000, x194001, x194002, x200000, x200001, x200002, x208000, x208001, x208002 => if x50 = true then (some false) else ((laws_toChan.f k x180000 x180001 x180002).bind fun bt209 => ((laws_eqChan.f k x200000 x200001 x200002 bt209.1 bt209.2.1 bt209.2.2).bind fun t214 => (if t214 = true then ((laws_markChan.f k x200000 x200001 x200002 1).bind fun bt215 => (if bt215.1 < 0 then (laws_FnExactChanTake.j1 k x5 x6 true x180000 x180001 x180002 x194000 x194001 x194002 x208000 x208001 x208002) else ((laws_eqChan.f k x208000 x208001 x208002 x194000 x194001 x194002).bind fun t217 => (if t217 = true then (if x9 = x5 then (laws_FnExactChanTake.j1 k x5 x6 (x10 != x6) x180000 x180001 x180002 x194000 x194001 x194002 x208000 x208001 x208002) else (laws_FnExactChanTake.j1 k x5 x6 true x180000 x180001 x180002 x194000 x194001 x194002 x208000 x208001 x208002)) else (laws_FnExactChanTake.j1 k x5 x6 true x180000 x180001 x180002 x194000 x194001 x194002 x208000 x208001 x208002))))) else (some false))))
def laws_FnExactChanTake.j1 : Nat → Int → Int → Bool → Int → List Int → Bool → Int → List Int → Bool → Int → List Int → Bool → Option (Bool)
  | 0, _, _, _, _, _, _, _, _, _, _, _, _ => none
  | k + 1, x5, x6, x76, x180000, x180001, x180002, x194000, x194001, x194002, x208000, x208001, x208002 => if x76 = true then (some false) else ((laws_markChan.f k x208000 x208001 x208002 1).bind fun bt218 => ((laws_heldChan.f k x208000 bt218.2 x208002 1).bind fun t220 => (if t220 < 0 then (some false) else (if t220 = bt218.1 then ((laws_toChan.f k x180000 x180001 x180002).bind fun bt221 => ((impl_ChanTake.f bt221.1 bt221.2.1 bt221.2.2).bind fun bt226 => ((laws_eqChan.f k bt226.1 bt226.2.1 bt226.2.2.1 x194000 x194001 x194002).bind fun t234 => (if t234 = true then (if bt226.2.2.2.1 = x5 then (laws_FnExactChanTake.j2 k bt218.1 (bt226.2.2.2.2 != x6) x208000 bt218.2 x208002) else (laws_FnExactChanTake.j2 k bt218.1 true x208000 bt218.2 x208002)) else (laws_FnExactChanTake.j2 k bt218.1 true x208000 bt218.2 x208002))))) else (some false)))))
def laws_FnExactChanTake.j2 : Nat → Int → Bool → Int → List Int → Bool → Option (Bool)
  | 0, _, _, _, _, _ => none
  | k + 1, x12, x108, x208000, x208001, x208002 => if x108 = true then (some false) else ((laws_heldChan.f k x208000 x208001 x208002 1).bind fun t235 => (if t235 < 0 then (some false) else (if t235 = x12 then (some true) else (some false))))
end
def laws_FnExactChanTake.f (k : Nat) (a0_0 : Int) (l0_1 : List Int) (a0_2 : Bool) : Option (Bool) := (laws_szChan.f a0_0 l0_1 a0_2 1048576).bind fun t180 => (if t180 < 0 then (some true) else ((laws_toChan.f k a0_0 l0_1 a0_2).bind fun bt181 => ((spec_ChanTake.f bt181.1 bt181.2.1 bt181.2.2).bind fun bt186 => ((laws_toChan.f k a0_0 l0_1 a0_2).bind fun bt194 => ((impl_ChanTake.f bt194.1 bt194.2.1 bt194.2.2).bind fun bt200 => ((laws_eqChan.f k bt200.1 bt200.2.1 bt200.2.2.1 bt186.1 bt186.2.1 bt186.2.2.1).bind fun t208 => (if t208 = true then (if bt200.2.2.2.1 = bt186.2.2.2.1 then (laws_FnExactChanTake.j0 k bt186.2.2.2.1 bt186.2.2.2.2 bt200.2.2.2.1 bt200.2.2.2.2 (bt200.2.2.2.2 != bt186.2.2.2.2) a0_0 l0_1 a0_2 bt186.1 bt186.2.1 bt186.2.2.1 bt194.1 bt194.2.1 bt194.2.2 bt200.1 bt200.2.1 bt200.2.2.1) else (laws_FnExactChanTake.j0 k bt186.2.2.2.1 bt186.2.2.2.2 bt200.2.2.2.1 bt200.2.2.2.2 true a0_0 l0_1 a0_2 bt186.1 bt186.2.1 bt186.2.2.1 bt194.1 bt194.2.1 bt194.2.2 bt200.1 bt200.2.1 bt200.2.2.1)) else (laws_FnExactChanTake.j0 k bt186.2.2.2.1 bt186.2.2.2.2 bt200.2.2.2.1 bt200.2.2.2.2 true a0_0 l0_1 a0_2 bt186.1 bt186.2.1 bt186.2.2.1 bt194.1 bt194.2.1 bt194.2.2 bt200.1 bt200.2.1 bt200.2.2.1))))))))
theorem laws_FnExactChanTake.mono_l : ∀ k, (∀ y0 y1 y2 y3 y4 y5 y6 y7 y8 y9 y10 y11 y12 y13 y14 y15 y16, LeO (laws_FnExactChanTake.j0 k y0 y1 y2 y3 y4 y5 y6 y7 y8 y9 y10 y11 y12 y13 y14 y15 y16) (laws_FnExactChanTake.j0 (k + 1) y0 y1 y2 y3 y4 y5 y6 y7 y8 y9 y10 y11 y12 y13 y14 y15 y16)) ∧ (∀ y0 y1 y2 y3 y4 y5 y6 y7 y8 y9 y10 y11, LeO (laws_FnExactChanTake.j1 k y0 y1 y2 y3 y4 y5 y6 y7 y8 y9 y10 y11) (laws_FnExactChanTake.j1 (k + 1) y0 y1 y2 y3 y4 y5 y6 y7 y8 y9 y10 y11)) ∧ (∀ y0 y1 y2 y3 y4, LeO (laws_FnExactChanTake.j2 k y0 y1 y2 y3 y4) (laws_FnExactChanTake.j2 (k + 1) y0 y1 y2 y3 y4))
  | 0 => ⟨fun _ _ _ _ _ _ _ _ _ _ _ _ _ _ _ _ _ r h => by simp [laws_FnExactChanTake.j0] at h, fun _ _ _ _ _ _ _ _ _ _ _ _ r h => by simp [laws_FnExactChanTake.j1] at h, fun _ _ _ _ _ r h => by simp [laws_FnExactChanTake.j2] at h⟩
  | k + 1 => by
    obtain ⟨ih0, ih1, ih2⟩ := laws_FnExactChanTake.mono_l k
    refine ⟨?_, ?_, ?_⟩
    · intro y0 y1 y2 y3 y4 y5 y6 y7 y8 y9 y10 y11 y12 y13 y14 y15 y16
      unfold laws_FnExactChanTake.j0
      repeat' first
      | (with_reducible exact ih0 _ _ _ _ _ _ _ _ _ _ _ _ _ _ _ _ _)
      | (with_reducible exact ih1 _ _ _ _ _ _ _ _ _ _ _ _)
      | (with_reducible exact ih2 _ _ _ _ _)
      | (with_reducible exact laws_eqChan.mono _ _ _ _ _ _ _)
      | (with_reducible exact laws_heldChan.mono _ _ _ _ _)
      | (with_reducible exact laws_markChan.mono _ _ _ _ _)
      | (with_reducible exact laws_toChan.mono _ _ _ _)
      | (with_reducible exact LeO.refl _)
      | (with_reducible exact LeO.none _)
      | (with_reducible refine LeO.ite ?_ ?_)
      | (with_reducible refine LeO.bind ?_ (fun _ => ?_))
      | exact ih0 _ _ _ _ _ _ _ _ _ _ _ _ _ _ _ _ _
      | exact ih1 _ _ _ _ _ _ _ _ _ _ _ _
      | exact ih2 _ _ _ _ _
      | exact laws_eqChan.mono _ _ _ _ _ _ _
      | exact laws_heldChan.mono _ _ _ _ _
      | exact laws_markChan.mono _ _ _ _ _
      | exact laws_toChan.mono _ _ _ _
      | exact LeO.none _
      | refine LeO.ite ?_ ?_
      | refine LeO.bind ?_ (fun _ => ?_)
    · intro y0 y1 y2 y3 y4 y5 y6 y7 y8 y9 y10 y11
      unfold laws_FnExactChanTake.j1
      repeat' first
      | (with_reducible exact ih0 _ _ _ _ _ _ _ _ _ _ _ _ _ _ _ _ _)
      | (with_reducible exact ih1 _ _ _ _ _ _ _ _ _ _ _ _)
      | (with_reducible exact ih2 _ _ _ _ _)
      | (with_reducible exact laws_eqChan.mono _ _ _ _ _ _ _)
      | (with_reducible exact laws_heldChan.mono _ _ _ _ _)
      | (with_reducible exact laws_markChan.mono _ _ _ _ _)
      | (with_reducible exact laws_toChan.mono _ _ _ _)
      | (with_reducible exact LeO.refl _)
      | (with_reducible exact LeO.none _)
      | (with_reducible refine LeO.ite ?_ ?_)
      | (with_reducible refine LeO.bind ?_ (fun _ => ?_))
      | exact ih0 _ _ _ _ _ _ _ _ _ _ _ _ _ _ _ _ _
      | exact ih1 _ _ _ _ _ _ _ _ _ _ _ _
      | exact ih2 _ _ _ _ _
      | exact laws_eqChan.mono _ _ _ _ _ _ _
      | exact laws_heldChan.mono _ _ _ _ _
      | exact laws_markChan.mono _ _ _ _ _
      | exact laws_toChan.mono _ _ _ _
      | exact LeO.none _
      | refine LeO.ite ?_ ?_
      | refine LeO.bind ?_ (fun _ => ?_)
    · intro y0 y1 y2 y3 y4
      unfold laws_FnExactChanTake.j2
      repeat' first
      | (with_reducible exact ih0 _ _ _ _ _ _ _ _ _ _ _ _ _ _ _ _ _)
      | (with_reducible exact ih1 _ _ _ _ _ _ _ _ _ _ _ _)
      | (with_reducible exact ih2 _ _ _ _ _)
      | (with_reducible exact laws_eqChan.mono _ _ _ _ _ _ _)
      | (with_reducible exact laws_heldChan.mono _ _ _ _ _)
      | (with_reducible exact laws_markChan.mono _ _ _ _ _)
      | (with_reducible exact laws_toChan.mono _ _ _ _)
      | (with_reducible exact LeO.refl _)
      | (with_reducible exact LeO.none _)
      | (with_reducible refine LeO.ite ?_ ?_)
      | (with_reducible refine LeO.bind ?_ (fun _ => ?_))
      | exact ih0 _ _ _ _ _ _ _ _ _ _ _ _ _ _ _ _ _
      | exact ih1 _ _ _ _ _ _ _ _ _ _ _ _
      | exact ih2 _ _ _ _ _
      | exact laws_eqChan.mono _ _ _ _ _ _ _
      | exact laws_heldChan.mono _ _ _ _ _
      | exact laws_markChan.mono _ _ _ _ _
      | exact laws_toChan.mono _ _ _ _
      | exact LeO.none _
      | refine LeO.ite ?_ ?_
      | refine LeO.bind ?_ (fun _ => ?_)
theorem laws_FnExactChanTake.mono : ∀ a0 a1 a2 k, LeO (laws_FnExactChanTake.f k a0 a1 a2) (laws_FnExactChanTake.f (k + 1) a0 a1 a2) := by
  intro a0 a1 a2 k
  obtain ⟨ih0, ih1, ih2⟩ := laws_FnExactChanTake.mono_l k
  unfold laws_FnExactChanTake.f
  repeat' first
      | (with_reducible exact ih0 _ _ _ _ _ _ _ _ _ _ _ _ _ _ _ _ _)
      | (with_reducible exact ih1 _ _ _ _ _ _ _ _ _ _ _ _)
      | (with_reducible exact ih2 _ _ _ _ _)
      | (with_reducible exact laws_eqChan.mono _ _ _ _ _ _ _)
      | (with_reducible exact laws_heldChan.mono _ _ _ _ _)
      | (with_reducible exact laws_markChan.mono _ _ _ _ _)
      | (with_reducible exact laws_toChan.mono _ _ _ _)
      | (with_reducible exact LeO.refl _)
      | (with_reducible exact LeO.none _)
      | (with_reducible refine LeO.ite ?_ ?_)
      | (with_reducible refine LeO.bind ?_ (fun _ => ?_))
      | exact ih0 _ _ _ _ _ _ _ _ _ _ _ _ _ _ _ _ _
      | exact ih1 _ _ _ _ _ _ _ _ _ _ _ _
      | exact ih2 _ _ _ _ _
      | exact laws_eqChan.mono _ _ _ _ _ _ _
      | exact laws_heldChan.mono _ _ _ _ _
      | exact laws_markChan.mono _ _ _ _ _
      | exact laws_toChan.mono _ _ _ _
      | exact LeO.none _
      | refine LeO.ite ?_ ?_
      | refine LeO.bind ?_ (fun _ => ?_)
set_option maxHeartbeats 8000000 in
set_option maxRecDepth 100000 in
theorem laws_FnExactChanTake.calls (k : Nat) (a0_0 : Int) (A0_1 : Option Addr) (c0_1 : Nat) (l0_1 : List Int) (a0_2 : Bool) (r : Bool) (w : World) (hr0_1 : Kd.C (Kd.int .i64) w A0_1 l0_1.length l0_1) (hc0_1 : l0_1.length ≤ c0_1) (h : laws_FnExactChanTake.f k a0_0 l0_1 a0_2 = some r) :
    Calls Try.prog 4 #[.agg #[.int .i64 a0_0, .slice A0_1 l0_1.length c0_1, .bool a0_2]] w fun e w' => e = .returned (.bool r) ∧ Below w.heap.size w w' := by
  have hu34 := Try.underlying34
  have hu26 := Try.underlying26
  have HR0_1 := Aside0.mk hr0_1
  have HC0_1 := Aside0.mk hc0_1
  clear hr0_1 hc0_1
  have HB := Aside0.mk (Below.refl w.heap.size w)
  have H : ((laws_szChan.f a0_0 l0_1 a0_2 1048576).bind fun t180 => (if t180 < 0 then (some true) else ((laws_toChan.f k a0_0 l0_1 a0_2).bind fun bt181 => ((spec_ChanTake.f bt181.1 bt181.2.1 bt181.2.2).bind fun bt186 => ((laws_toChan.f k a0_0 l0_1 a0_2).bind fun bt194 => ((impl_ChanTake.f bt194.1 bt194.2.1 bt194.2.2).bind fun bt200 => ((laws_eqChan.f k bt200.1 bt200.2.1 bt200.2.2.1 bt186.1 bt186.2.1 bt186.2.2.1).bind fun t208 => (if t208 = true then (if bt200.2.2.2.1 = bt186.2.2.2.1 then (laws_FnExactChanTake.j0 k bt186.2.2.2.1 bt186.2.2.2.2 bt200.2.2.2.1 bt200.2.2.2.2 (bt200.2.2.2.2 != bt186.2.2.2.2) a0_0 l0_1 a0_2 bt186.1 bt186.2.1 bt186.2.2.1 bt194.1 bt194.2.1 bt194.2.2 bt200.1 bt200.2.1 bt200.2.2.1) else (laws_FnExactChanTake.j0 k bt186.2.2.2.1 bt186.2.2.2.2 bt200.2.2.2.1 bt200.2.2.2.2 true a0_0 l0_1 a0_2 bt186.1 bt186.2.1 bt186.2.2.1 bt194.1 bt194.2.1 bt194.2.2 bt200.1 bt200.2.1 bt200.2.2.1)) else (laws_FnExactChanTake.j0 k bt186.2.2.2.1 bt186.2.2.2.2 bt200.2.2.2.1 bt200.2.2.2.2 true a0_0 l0_1 a0_2 bt186.1 bt186.2.1 bt186.2.2.1 bt194.1 bt194.2.1 bt194.2.2 bt200.1 bt200.2.1 bt200.2.2.1))))))))) = some r := h
  clear h
  replace H := Option.bind_eq_some_iff.mp H
  obtain ⟨t180, A20, H⟩ := H
  replace H : (if t180 < 0 then (some true) else ((laws_toChan.f k a0_0 l0_1 a0_2).bind fun bt181 => ((spec_ChanTake.f bt181.1 bt181.2.1 bt181.2.2).bind fun bt186 => ((laws_toChan.f k a0_0 l0_1 a0_2).bind fun bt194 => ((impl_ChanTake.f bt194.1 bt194.2.1 bt194.2.2).bind fun bt200 => ((laws_eqChan.f k bt200.1 bt200.2.1 bt200.2.2.1 bt186.1 bt186.2.1 bt186.2.2.1).bind fun t208 => (if t208 = true then (if bt200.2.2.2.1 = bt186.2.2.2.1 then (laws_FnExactChanTake.j0 k bt186.2.2.2.1 bt186.2.2.2.2 bt200.2.2.2.1 bt200.2.2.2.2 (bt200.2.2.2.2 != bt186.2.2.2.2) a0_0 l0_1 a0_2 bt186.1 bt186.2.1 bt186.2.2.1 bt194.1 bt194.2.1 bt194.2.2 bt200.1 bt200.2.1 bt200.2.2.1) else (laws_FnExactChanTake.j0 k bt186.2.2.2.1 bt186.2.2.2.2 bt200.2.2.2.1 bt200.2.2.2.2 true a0_0 l0_1 a0_2 bt186.1 bt186.2.1 bt186.2.2.1 bt194.1 bt194.2.1 bt194.2.2 bt200.1 bt200.2.1 bt200.2.2.1)) else (laws_FnExactChanTake.j0 k bt186.2.2.2.1 bt186.2.2.2.2 bt200.2.2.2.1 bt200.2.2.2.2 true a0_0 l0_1 a0_2 bt186.1 bt186.2.1 bt186.2.2.1 bt194.1 bt194.2.1 bt194.2.2 bt200.1 bt200.2.1 bt200.2.2.1)))))))) = some r := H
  have A2 := Aside0.mk A20
  clear A20
  by_cases c3 : t180 < 0
  · rw [if_pos c3] at H
    have c3b0 : decide (t180 < 0) = true := decide_eq_true c3
    clear c3
    obtain rfl := Option.some.inj H
    go_enter Try.func4, Try.ntmps4
    go_wp2_with (first | ((with_reducible refine gate_dst (N := 1) rfl ?_); refine box_event ?hg (N := 1) ?hd (cs := #[.int .i64 a0_0, .slice A0_1 l0_1.length c0_1, .bool a0_2]) (t := 34) ?hr ?_; (case hd => rfl); (case hg => rfl); (case hr => first | (go_simp; done) | (go_simp; rfl)); intro gb179 hg w4 hbox hb; have n0_ := Aside0.mk (below_step (by repeat (first | (with_reducible first | exact HB.out | apply below_alloc | apply pw_below_drewN | apply below_drew1) | exact HB.out)) hb); have n1_ := Aside0.mk (hbox); have n2_ := Aside0.mk ((by rw [hg]; exact (below_size (by repeat (first | (with_reducible first | exact HB.out | apply below_alloc | apply pw_below_drewN | apply below_drew1) | exact HB.out))) : w.heap.size ≤ gb179)); have n3_ := Aside0.mk ((by rw [hg]; exact (below_size (by repeat (first | (with_reducible first | exact HB.out | apply below_alloc | apply pw_below_drewN | apply below_drew1) | exact HB.out))) : w.heap.size ≤ gb179)); clear HB; have HB := n0_; have BK179 := n1_; have GW179 := n2_; have GE179 := n3_; clear n0_ n1_ n2_ n3_; clear hb hbox hg; have hcz5_0 : w4.cell? ⟨gb179, 0, none⟩ = some (.int .i64 a0_0) := (blk_cell BK179.out 0).trans rfl; have hcz5_1 : w4.cell? ⟨gb179, 1, none⟩ = some (.slice A0_1 l0_1.length c0_1) := (blk_cell BK179.out 1).trans rfl; have hcz5_2 : w4.cell? ⟨gb179, 2, none⟩ = some (.bool a0_2) := (blk_cell BK179.out 2).trans rfl; have hfz5_0 := blk_frozen BK179.out 0; have hfz5_1 := blk_frozen BK179.out 1; have hfz5_2 := blk_frozen BK179.out 2) | ((with_reducible refine gate_callee (f := 17) rfl ?_); refine goesL_ (some 19) rfl rfl Try.func17 (by kernel_rfl) rfl #[.agg #[.int .i64 a0_0, .slice A0_1 l0_1.length c0_1, .bool a0_2], .int .i64 1048576] rfl (by (try simp only [List.map_toArray, List.map_cons, List.map_nil]); first | done | rfl | (simp only [List.length_drop, List.length_take]; rfl)) ?_; (with_reducible refine (laws_szChan.calls a0_0 _ _ l0_1 a0_2 1048576 t180 _ ?side1 ?side2 A2.out).mono ?_); (case side1 => repeat (first | exact (Kd.C_below HR0_1.out HB.out) | (with_reducible refine Kd.C_alloc ?_ _) | (with_reducible refine Kd.C_drewN ?_ _) | (with_reducible refine Kd.C_drew ?_))); (case side2 => exact HC0_1.out); rintro e w6 ⟨rfl, hb⟩; refine ⟨_, rfl, ?_⟩; have n0_ := Aside0.mk (blk_below (g := gb179) (o := .cells #[.int .i64 a0_0, .slice A0_1 l0_1.length c0_1, .bool a0_2] 34 (0, 0)) (by (with_reducible repeat (first | refine blk_drewN ?_ _ | refine blk_drew ?_ | refine blk_alloc ?_ _)); exact BK179.out) hb); have n1_ := Aside0.mk (below_step (by repeat (first | (with_reducible first | exact HB.out | apply below_alloc | apply pw_below_drewN | apply below_drew1 | refine below_set ?_ GE179.out) | exact HB.out)) hb); clear BK179; clear HB; have BK179 := n0_; have HB := n1_; clear n0_ n1_; (try clear hb); (try clear hb2); (try clear hk); (try clear hi)))
    go_ret
    exact ⟨by first | rfl | (simp [errW_none, errW_some] <;> rfl) | (simp [*, errW_none, errW_some] <;> rfl), by repeat (first | (with_reducible first | exact HB.out | apply below_alloc | apply pw_below_drewN | apply below_drew1 | refine below_set ?_ GE179.out) | exact HB.out)⟩
  · rw [if_neg c3] at H
    have c3b0 : decide (t180 < 0) = false := decide_eq_false c3
    clear c3
    replace H := Option.bind_eq_some_iff.mp H
    obtain ⟨⟨t181, t182, t185⟩, A70, H⟩ := H
    replace H : ((spec_ChanTake.f t181 t182 t185).bind fun bt186 => ((laws_toChan.f k a0_0 l0_1 a0_2).bind fun bt194 => ((impl_ChanTake.f bt194.1 bt194.2.1 bt194.2.2).bind fun bt200 => ((laws_eqChan.f k bt200.1 bt200.2.1 bt200.2.2.1 bt186.1 bt186.2.1 bt186.2.2.1).bind fun t208 => (if t208 = true then (if bt200.2.2.2.1 = bt186.2.2.2.1 then (laws_FnExactChanTake.j0 k bt186.2.2.2.1 bt186.2.2.2.2 bt200.2.2.2.1 bt200.2.2.2.2 (bt200.2.2.2.2 != bt186.2.2.2.2) a0_0 l0_1 a0_2 bt186.1 bt186.2.1 bt186.2.2.1 bt194.1 bt194.2.1 bt194.2.2 bt200.1 bt200.2.1 bt200.2.2.1) else (laws_FnExactChanTake.j0 k bt186.2.2.2.1 bt186.2.2.2.2 bt200.2.2.2.1 bt200.2.2.2.2 true a0_0 l0_1 a0_2 bt186.1 bt186.2.1 bt186.2.2.1 bt194.1 bt194.2.1 bt194.2.2 bt200.1 bt200.2.1 bt200.2.2.1)) else (laws_FnExactChanTake.j0 k bt186.2.2.2.1 bt186.2.2.2.2 bt200.2.2.2.1 bt200.2.2.2.2 true a0_0 l0_1 a0_2 bt186.1 bt186.2.1 bt186.2.2.1 bt194.1 bt194.2.1 bt194.2.2 bt200.1 bt200.2.1 bt200.2.2.1)))))) = some r := H
    have A7 := Aside0.mk A70
    clear A70
    replace H := Option.bind_eq_some_iff.mp H
    obtain ⟨⟨t186, t187, t190, t191, t192⟩, A80, H⟩ := H
    replace H : ((laws_toChan.f k a0_0 l0_1 a0_2).bind fun bt194 => ((impl_ChanTake.f bt194.1 bt194.2.1 bt194.2.2).bind fun bt200 => ((laws_eqChan.f k bt200.1 bt200.2.1 bt200.2.2.1 t186 t187 t190).bind fun t208 => (if t208 = true then (if bt200.2.2.2.1 = t191 then (laws_FnExactChanTake.j0 k t191 t192 bt200.2.2.2.1 bt200.2.2.2.2 (bt200.2.2.2.2 != t192) a0_0 l0_1 a0_2 t186 t187 t190 bt194.1 bt194.2.1 bt194.2.2 bt200.1 bt200.2.1 bt200.2.2.1) else (laws_FnExactChanTake.j0 k t191 t192 bt200.2.2.2.1 bt200.2.2.2.2 true a0_0 l0_1 a0_2 t186 t187 t190 bt194.1 bt194.2.1 bt194.2.2 bt200.1 bt200.2.1 bt200.2.2.1)) else (laws_FnExactChanTake.j0 k t191 t192 bt200.2.2.2.1 bt200.2.2.2.2 true a0_0 l0_1 a0_2 t186 t187 t190 bt194.1 bt194.2.1 bt194.2.2 bt200.1 bt200.2.1 bt200.2.2.1))))) = some r := H
    have A8 := Aside0.mk A80
    clear A80
    replace H := Option.bind_eq_some_iff.mp H
    obtain ⟨⟨t194, t195, t198⟩, A90, H⟩ := H
    replace H : ((impl_ChanTake.f t194 t195 t198).bind fun bt200 => ((laws_eqChan.f k bt200.1 bt200.2.1 bt200.2.2.1 t186 t187 t190).bind fun t208 => (if t208 = true then (if bt200.2.2.2.1 = t191 then (laws_FnExactChanTake.j0 k t191 t192 bt200.2.2.2.1 bt200.2.2.2.2 (bt200.2.2.2.2 != t192) a0_0 l0_1 a0_2 t186 t187 t190 t194 t195 t198 bt200.1 bt200.2.1 bt200.2.2.1) else (laws_FnExactChanTake.j0 k t191 t192 bt200.2.2.2.1 bt200.2.2.2.2 true a0_0 l0_1 a0_2 t186 t187 t190 t194 t195 t198 bt200.1 bt200.2.1 bt200.2.2.1)) else (laws_FnExactChanTake.j0 k t191 t192 bt200.2.2.2.1 bt200.2.2.2.2 true a0_0 l0_1 a0_2 t186 t187 t190 t194 t195 t198 bt200.1 bt200.2.1 bt200.2.2.1)))) = some r := H
    have A9 := Aside0.mk A90
    clear A90
    replace H := Option.bind_eq_some_iff.mp H
    obtain ⟨⟨t200, t201, t204, t205, t206⟩, A100, H⟩ := H
    replace H : ((laws_eqChan.f k t200 t201 t204 t186 t187 t190).bind fun t208 => (if t208 = true then (if t205 = t191 then (laws_FnExactChanTake.j0 k t191 t192 t205 t206 (t206 != t192) a0_0 l0_1 a0_2 t186 t187 t190 t194 t195 t198 t200 t201 t204) else (laws_FnExactChanTake.j0 k t191 t192 t205 t206 true a0_0 l0_1 a0_2 t186 t187 t190 t194 t195 t198 t200 t201 t204)) else (laws_FnExactChanTake.j0 k t191 t192 t205 t206 true a0_0 l0_1 a0_2 t186 t187 t190 t194 t195 t198 t200 t201 t204))) = some r := H
    have A10 := Aside0.mk A100
    clear A100
    have HC11 := Aside0.mk H
    clear H
    go_enter Try.func4, Try.ntmps4
    go_upto_region 8 with (first | ((with_reducible refine gate_dst (N := 1) rfl ?_); refine box_event ?hg (N := 1) ?hd (cs := #[.int .i64 a0_0, .slice A0_1 l0_1.length c0_1, .bool a0_2]) (t := 34) ?hr ?_; (case hd => rfl); (case hg => rfl); (case hr => first | (go_simp; done) | (go_simp; rfl)); intro gb179 hg w12 hbox hb; have n0_ := Aside0.mk (below_step (by repeat (first | (with_reducible first | exact HB.out | apply below_alloc | apply pw_below_drewN | apply below_drew1) | exact HB.out)) hb); have n1_ := Aside0.mk (hbox); have n2_ := Aside0.mk ((by rw [hg]; exact (below_size (by repeat (first | (with_reducible first | exact HB.out | apply below_alloc | apply pw_below_drewN | apply below_drew1) | exact HB.out))) : w.heap.size ≤ gb179)); have n3_ := Aside0.mk ((by rw [hg]; exact (below_size (by repeat (first | (with_reducible first | exact HB.out | apply below_alloc | apply pw_below_drewN | apply below_drew1) | exact HB.out))) : w.heap.size ≤ gb179)); clear HB; have HB := n0_; have BK179 := n1_; have GW179 := n2_; have GE179 := n3_; clear n0_ n1_ n2_ n3_; clear hb hbox hg; have hcz13_0 : w12.cell? ⟨gb179, 0, none⟩ = some (.int .i64 a0_0) := (blk_cell BK179.out 0).trans rfl; have hcz13_1 : w12.cell? ⟨gb179, 1, none⟩ = some (.slice A0_1 l0_1.length c0_1) := (blk_cell BK179.out 1).trans rfl; have hcz13_2 : w12.cell? ⟨gb179, 2, none⟩ = some (.bool a0_2) := (blk_cell BK179.out 2).trans rfl; have hfz13_0 := blk_frozen BK179.out 0; have hfz13_1 := blk_frozen BK179.out 1; have hfz13_2 := blk_frozen BK179.out 2) | ((with_reducible refine gate_callee (f := 17) rfl ?_); refine goesL_ (some 19) rfl rfl Try.func17 (by kernel_rfl) rfl #[.agg #[.int .i64 a0_0, .slice A0_1 l0_1.length c0_1, .bool a0_2], .int .i64 1048576] rfl (by (try simp only [List.map_toArray, List.map_cons, List.map_nil]); first | done | rfl | (simp only [List.length_drop, List.length_take]; rfl)) ?_; (with_reducible refine (laws_szChan.calls a0_0 _ _ l0_1 a0_2 1048576 t180 _ ?side1 ?side2 A2.out).mono ?_); (case side1 => repeat (first | exact (Kd.C_below HR0_1.out HB.out) | (with_reducible refine Kd.C_alloc ?_ _) | (with_reducible refine Kd.C_drewN ?_ _) | (with_reducible refine Kd.C_drew ?_))); (case side2 => exact HC0_1.out); rintro e w14 ⟨rfl, hb⟩; refine ⟨_, rfl, ?_⟩; have n0_ := Aside0.mk (blk_below (g := gb179) (o := .cells #[.int .i64 a0_0, .slice A0_1 l0_1.length c0_1, .bool a0_2] 34 (0, 0)) (by (with_reducible repeat (first | refine blk_drewN ?_ _ | refine blk_drew ?_ | refine blk_alloc ?_ _)); exact BK179.out) hb); have n1_ := Aside0.mk (below_step (by repeat (first | (with_reducible first | exact HB.out | apply below_alloc | apply pw_below_drewN | apply below_drew1 | refine below_set ?_ GE179.out) | exact HB.out)) hb); clear BK179; clear HB; have BK179 := n0_; have HB := n1_; clear n0_ n1_; (try clear hb); (try clear hb2); (try clear hk); (try clear hi); have hcz15_0 : w14.cell? ⟨gb179, 0, none⟩ = some (.int .i64 a0_0) := (blk_cell BK179.out 0).trans rfl; have hcz15_1 : w14.cell? ⟨gb179, 1, none⟩ = some (.slice A0_1 l0_1.length c0_1) := (blk_cell BK179.out 1).trans rfl; have hcz15_2 : w14.cell? ⟨gb179, 2, none⟩ = some (.bool a0_2) := (blk_cell BK179.out 2).trans rfl; have hfz15_0 := blk_frozen BK179.out 0; have hfz15_1 := blk_frozen BK179.out 1; have hfz15_2 := blk_frozen BK179.out 2) | ((with_reducible refine gate_callee (f := 18) rfl ?_); refine goesL_ (some 24) rfl rfl Try.func18 (by kernel_rfl) rfl #[.agg #[.int .i64 a0_0, .slice A0_1 l0_1.length c0_1, .bool a0_2]] rfl (by (try simp only [List.map_toArray, List.map_cons, List.map_nil]); first | done | rfl | (simp only [List.length_drop, List.length_take]; rfl)) ?_; (with_reducible refine (laws_toChan.calls k a0_0 _ _ l0_1 a0_2 t181 t182 t185 _ ?side1 ?side2 A7.out).mono ?_); (case side1 => repeat (first | exact (Kd.C_below HR0_1.out HB.out) | (with_reducible refine Kd.C_alloc ?_ _) | (with_reducible refine Kd.C_drewN ?_ _) | (with_reducible refine Kd.C_drew ?_))); (case side2 => exact HC0_1.out); rintro e w16 ⟨v183, rfl, ho0, hb⟩; refine ⟨_, rfl, ?_⟩; have n0_ := Aside0.mk (Kd.R_lower ho0 (below_size (by repeat (first | (with_reducible first | exact HB.out | apply below_alloc | apply pw_below_drewN | apply below_drew1 | refine below_set ?_ GE179.out) | exact HB.out)))); have n1_ := Aside0.mk (blk_below (g := gb179) (o := .cells #[.int .i64 a0_0, .slice A0_1 l0_1.length c0_1, .bool a0_2] 34 (0, 0)) (by (with_reducible repeat (first | refine blk_drewN ?_ _ | refine blk_drew ?_ | refine blk_alloc ?_ _)); exact BK179.out) hb); have n2_ := Aside0.mk (below_step (by repeat (first | (with_reducible first | exact HB.out | apply below_alloc | apply pw_below_drewN | apply below_drew1 | refine below_set ?_ GE179.out) | exact HB.out)) hb); clear BK179; clear HB; have HO184 := n0_; have BK179 := n1_; have HB := n2_; clear n0_ n1_ n2_; (try clear hb); (try clear hb2); (try clear hk); (try clear hi); (try clear ho0); obtain ⟨Ao17, co17, eo17⟩ := Kd.R_slice HO184.out; subst eo17) | ((with_reducible refine gate_callee (f := 14) rfl ?_); refine goesL_ (some 25) rfl rfl Try.func14 (by kernel_rfl) rfl #[.agg #[.int .i64 t181, .slice Ao17 t182.length co17, .bool t185]] rfl (by (try simp only [List.map_toArray, List.map_cons, List.map_nil]); first | done | rfl | (simp only [List.length_drop, List.length_take]; rfl)) ?_; (with_reducible refine (spec_ChanTake.calls t181 _ _ t182 t185 t186 t187 t190 t191 t192 _ ?side1 ?side2 A8.out).mono ?_); (case side1 => repeat (first | exact (Kd.R_reads' HO184.out).2.2 | (with_reducible refine Kd.C_alloc ?_ _) | (with_reducible refine Kd.C_drewN ?_ _) | (with_reducible refine Kd.C_drew ?_))); (case side2 => exact (Kd.R_reads' HO184.out).2.1); rintro e w18 ⟨v188, rfl, ho0, hb⟩; refine ⟨_, rfl, ?_⟩; have n0_ := Aside0.mk (Kd.R_elder' (by (with_reducible repeat (first | apply Kd.R_alloc | apply Kd.R_drewN | apply Kd.R_drew)); exact HO184.out) (Kd.R_base ho0) hb); have n1_ := Aside0.mk (Kd.R_lower (Kd.R_new' ho0 (Kd.R_lt (by (with_reducible repeat (first | apply Kd.R_alloc | apply Kd.R_drewN | apply Kd.R_drew)); exact HO184.out))) (below_size (by repeat (first | (with_reducible first | exact HB.out | apply below_alloc | apply pw_below_drewN | apply below_drew1 | refine below_set ?_ GE179.out) | exact HB.out)))); have n2_ := Aside0.mk (blk_below (g := gb179) (o := .cells #[.int .i64 a0_0, .slice A0_1 l0_1.length c0_1, .bool a0_2] 34 (0, 0)) (by (with_reducible repeat (first | refine blk_drewN ?_ _ | refine blk_drew ?_ | refine blk_alloc ?_ _)); exact BK179.out) hb); have n3_ := Aside0.mk (below_step (by repeat (first | (with_reducible first | exact HB.out | apply below_alloc | apply pw_below_drewN | apply below_drew1 | refine below_set ?_ GE179.out) | exact HB.out)) hb); clear HO184; clear BK179; clear HB; have HO184 := n0_; have HO189 := n1_; have BK179 := n2_; have HB := n3_; clear n0_ n1_ n2_ n3_; (try clear hb); (try clear hb2); (try clear hk); (try clear hi); (try clear ho0)) | ((with_reducible refine gate_dst (N := 4) rfl ?_); refine box_event ?hg (N := 4) ?hd (cs := #[.int .i64 0, .slice none 0 0, .bool false]) (t := 26) ?hr ?_; (case hd => rfl); (case hg => rfl); (case hr => first | (go_simp; done) | (go_simp; rfl)); intro gb193 hg w19 hbox hb; have n0_ := Aside0.mk (Kd.R_below (by (with_reducible repeat (first | apply Kd.R_alloc | apply Kd.R_drewN | apply Kd.R_drew)); exact HO184.out) hb); have n1_ := Aside0.mk (Kd.R_below (by (with_reducible repeat (first | apply Kd.R_alloc | apply Kd.R_drewN | apply Kd.R_drew)); exact HO189.out) hb); have n2_ := Aside0.mk (blk_below (g := gb179) (o := .cells #[.int .i64 a0_0, .slice A0_1 l0_1.length c0_1, .bool a0_2] 34 (0, 0)) (by (with_reducible repeat (first | refine blk_drewN ?_ _ | refine blk_drew ?_ | refine blk_alloc ?_ _)); exact BK179.out) hb); have n3_ := Aside0.mk (below_step (by repeat (first | (with_reducible first | exact HB.out | apply below_alloc | apply pw_below_drewN | apply below_drew1 | refine below_set ?_ GE179.out) | exact HB.out)) hb); have n4_ := Aside0.mk (hbox); have n5_ := Aside0.mk ((by rw [hg]; exact (below_size (by repeat (first | (with_reducible first | exact HB.out | apply below_alloc | apply pw_below_drewN | apply below_drew1 | refine below_set ?_ GE179.out) | exact HB.out))) : w.heap.size ≤ gb193)); have n6_ := Aside0.mk ((by rw [hg]; exact (below_size (by repeat (first | (with_reducible first | exact HB.out | apply below_alloc | apply pw_below_drewN | apply below_drew1 | refine below_set ?_ GE179.out) | exact HB.out))) : w.heap.size ≤ gb193)); have n7_ := Aside0.mk ((by rw [hg]; exact Nat.ne_of_lt (blk_lt (g := gb179) (o := .cells #[.int .i64 a0_0, .slice A0_1 l0_1.length c0_1, .bool a0_2] 34 (0, 0)) (by (with_reducible repeat (first | refine blk_drewN ?_ _ | refine blk_drew ?_ | refine blk_alloc ?_ _)); exact BK179.out)) : gb179 ≠ gb193)); have n8_ := Aside0.mk ((by rw [hg]; exact Nat.ne_of_gt (blk_lt (g := gb179) (o := .cells #[.int .i64 a0_0, .slice A0_1 l0_1.length c0_1, .bool a0_2] 34 (0, 0)) (by (with_reducible repeat (first | refine blk_drewN ?_ _ | refine blk_drew ?_ | refine blk_alloc ?_ _)); exact BK179.out)) : gb193 ≠ gb179)); clear HO184; clear HO189; clear BK179; clear HB; have HO184 := n0_; have HO189 := n1_; have BK179 := n2_; have HB := n3_; have BK193 := n4_; have GW193 := n5_; have GE193 := n6_; have NB179_193 := n7_; have NB193_179 := n8_; clear n0_ n1_ n2_ n3_ n4_ n5_ n6_ n7_ n8_; clear hb hbox hg; have hnb20 := NB193_179.out; have hnc20 := NB179_193.out; have hcz21_0 : w19.cell? ⟨gb193, 0, none⟩ = some (.int .i64 0) := (blk_cell BK193.out 0).trans rfl; have hcz21_1 : w19.cell? ⟨gb193, 1, none⟩ = some (.slice none 0 0) := (blk_cell BK193.out 1).trans rfl; have hcz21_2 : w19.cell? ⟨gb193, 2, none⟩ = some (.bool false) := (blk_cell BK193.out 2).trans rfl; have hfz21_0 := blk_frozen BK193.out 0; have hfz21_1 := blk_frozen BK193.out 1; have hfz21_2 := blk_frozen BK193.out 2; obtain ⟨Ao22, co22, eo22⟩ := Kd.R_slice HO189.out; subst eo22; have hcz23_0 : w19.cell? ⟨gb179, 0, none⟩ = some (.int .i64 a0_0) := (blk_cell BK179.out 0).trans rfl; have hcz23_1 : w19.cell? ⟨gb179, 1, none⟩ = some (.slice A0_1 l0_1.length c0_1) := (blk_cell BK179.out 1).trans rfl; have hcz23_2 : w19.cell? ⟨gb179, 2, none⟩ = some (.bool a0_2) := (blk_cell BK179.out 2).trans rfl; have hfz23_0 := blk_frozen BK179.out 0; have hfz23_1 := blk_frozen BK179.out 1; have hfz23_2 := blk_frozen BK179.out 2) | ((with_reducible refine gate_callee (f := 18) rfl ?_); refine goesL_ (some 30) rfl rfl Try.func18 (by kernel_rfl) rfl #[.agg #[.int .i64 a0_0, .slice A0_1 l0_1.length c0_1, .bool a0_2]] rfl (by (try simp only [List.map_toArray, List.map_cons, List.map_nil]); first | done | rfl | (simp only [List.length_drop, List.length_take]; rfl)) ?_; (with_reducible refine (laws_toChan.calls k a0_0 _ _ l0_1 a0_2 t194 t195 t198 _ ?side1 ?side2 A9.out).mono ?_); (case side1 => exact Kd.C_below HR0_1.out (by repeat (first | (with_reducible first | exact HB.out | apply below_alloc | apply pw_below_drewN | apply below_drew1 | refine below_set ?_ GE179.out | refine below_set ?_ GE193.out) | exact HB.out))); (case side2 => exact HC0_1.out); rintro e w24 ⟨v196, rfl, ho0, hb⟩; refine ⟨_, rfl, ?_⟩; have n0_ := Aside0.mk (Kd.R_elder' (by (with_reducible repeat (first | apply Kd.R_alloc | apply Kd.R_drewN | apply Kd.R_drew)); exact (Kd.R_mono (Kd.R_far (p := ⟨gb193, 2, none⟩) (Kd.R_far (p := ⟨gb193, 1, none⟩) (Kd.R_far (p := ⟨gb193, 0, none⟩) (Kd.R_types HO184.out BK193.out (by decide)) (fun _ hk => hk.2) (.int .i64 t186)) (fun _ hk => hk.2) (.slice Ao22 t187.length co22)) (fun _ hk => hk.2) (.bool t190)) (fun _ h_ => h_.1))) (Kd.R_base ho0) hb); have n1_ := Aside0.mk (Kd.R_elder' (by (with_reducible repeat (first | apply Kd.R_alloc | apply Kd.R_drewN | apply Kd.R_drew)); exact (Kd.R_mono (Kd.R_far (p := ⟨gb193, 2, none⟩) (Kd.R_far (p := ⟨gb193, 1, none⟩) (Kd.R_far (p := ⟨gb193, 0, none⟩) (Kd.R_types HO189.out BK193.out (by decide)) (fun _ hk => hk.2) (.int .i64 t186)) (fun _ hk => hk.2) (.slice Ao22 t187.length co22)) (fun _ hk => hk.2) (.bool t190)) (fun _ h_ => h_.1))) (Kd.R_base ho0) hb); have n2_ := Aside0.mk (Kd.R_lower (Kd.R_new' (Kd.R_new' ho0 (Kd.R_lt (by (with_reducible repeat (first | apply Kd.R_alloc | apply Kd.R_drewN | apply Kd.R_drew)); exact (Kd.R_mono (Kd.R_far (p := ⟨gb193, 2, none⟩) (Kd.R_far (p := ⟨gb193, 1, none⟩) (Kd.R_far (p := ⟨gb193, 0, none⟩) (Kd.R_types HO184.out BK193.out (by decide)) (fun _ hk => hk.2) (.int .i64 t186)) (fun _ hk => hk.2) (.slice Ao22 t187.length co22)) (fun _ hk => hk.2) (.bool t190)) (fun _ h_ => h_.1))))) (Kd.R_lt (by (with_reducible repeat (first | apply Kd.R_alloc | apply Kd.R_drewN | apply Kd.R_drew)); exact (Kd.R_mono (Kd.R_far (p := ⟨gb193, 2, none⟩) (Kd.R_far (p := ⟨gb193, 1, none⟩) (Kd.R_far (p := ⟨gb193, 0, none⟩) (Kd.R_types HO189.out BK193.out (by decide)) (fun _ hk => hk.2) (.int .i64 t186)) (fun _ hk => hk.2) (.slice Ao22 t187.length co22)) (fun _ hk => hk.2) (.bool t190)) (fun _ h_ => h_.1))))) (below_size (by repeat (first | (with_reducible first | exact HB.out | apply below_alloc | apply pw_below_drewN | apply below_drew1 | refine below_set ?_ GE179.out | refine below_set ?_ GE193.out) | exact HB.out)))); have n3_ := Aside0.mk (blk_below (g := gb179) (o := .cells #[.int .i64 a0_0, .slice A0_1 l0_1.length c0_1, .bool a0_2] 34 (0, 0)) (by (with_reducible repeat (first | refine blk_drewN ?_ _ | refine blk_drew ?_ | refine blk_alloc ?_ _)); refine blk_far ?_ NB179_193.out _; (with_reducible repeat (first | refine blk_drewN ?_ _ | refine blk_drew ?_ | refine blk_alloc ?_ _)); refine blk_far ?_ NB179_193.out _; (with_reducible repeat (first | refine blk_drewN ?_ _ | refine blk_drew ?_ | refine blk_alloc ?_ _)); refine blk_far ?_ NB179_193.out _; (with_reducible repeat (first | refine blk_drewN ?_ _ | refine blk_drew ?_ | refine blk_alloc ?_ _)); exact BK179.out) hb); have n4_ := Aside0.mk (blk_below (g := gb193) (o := .cells #[.int .i64 t186, .slice Ao22 t187.length co22, .bool t190] 26 (0, 0)) (by (with_reducible repeat (first | refine blk_drewN ?_ _ | refine blk_drew ?_ | refine blk_alloc ?_ _)); refine blk_put (cs := #[.int .i64 t186, .slice Ao22 t187.length co22, .bool false]) ?_ 2 _ rfl; (with_reducible repeat (first | refine blk_drewN ?_ _ | refine blk_drew ?_ | refine blk_alloc ?_ _)); refine blk_put (cs := #[.int .i64 t186, .slice none 0 0, .bool false]) ?_ 1 _ rfl; (with_reducible repeat (first | refine blk_drewN ?_ _ | refine blk_drew ?_ | refine blk_alloc ?_ _)); refine blk_put (cs := #[.int .i64 0, .slice none 0 0, .bool false]) ?_ 0 _ rfl; (with_reducible repeat (first | refine blk_drewN ?_ _ | refine blk_drew ?_ | refine blk_alloc ?_ _)); exact BK193.out) hb); have n5_ := Aside0.mk (below_step (by repeat (first | (with_reducible first | exact HB.out | apply below_alloc | apply pw_below_drewN | apply below_drew1 | refine below_set ?_ GE179.out | refine below_set ?_ GE193.out) | exact HB.out)) hb); clear HO184; clear HO189; clear BK179; clear BK193; clear HB; have HO184 := n0_; have HO189 := n1_; have HO197 := n2_; have BK179 := n3_; have BK193 := n4_; have HB := n5_; clear n0_ n1_ n2_ n3_ n4_ n5_; (try clear hb); (try clear hb2); (try clear hk); (try clear hi); (try clear ho0)) | ((with_reducible refine gate_dst (N := 7) rfl ?_); refine box_event ?hg (N := 7) ?hd (cs := #[.int .i64 0, .slice none 0 0, .bool false]) (t := 26) ?hr ?_; (case hd => rfl); (case hg => rfl); (case hr => first | (go_simp; done) | (go_simp; rfl)); intro gb199 hg w25 hbox hb; have n0_ := Aside0.mk (Kd.R_below (by (with_reducible repeat (first | apply Kd.R_alloc | apply Kd.R_drewN | apply Kd.R_drew)); exact HO184.out) hb); have n1_ := Aside0.mk (Kd.R_below (by (with_reducible repeat (first | apply Kd.R_alloc | apply Kd.R_drewN | apply Kd.R_drew)); exact HO189.out) hb); have n2_ := Aside0.mk (Kd.R_below (by (with_reducible repeat (first | apply Kd.R_alloc | apply Kd.R_drewN | apply Kd.R_drew)); exact HO197.out) hb); have n3_ := Aside0.mk (blk_below (g := gb179) (o := .cells #[.int .i64 a0_0, .slice A0_1 l0_1.length c0_1, .bool a0_2] 34 (0, 0)) (by (with_reducible repeat (first | refine blk_drewN ?_ _ | refine blk_drew ?_ | refine blk_alloc ?_ _)); exact BK179.out) hb); have n4_ := Aside0.mk (blk_below (g := gb193) (o := .cells #[.int .i64 t186, .slice Ao22 t187.length co22, .bool t190] 26 (0, 0)) (by (with_reducible repeat (first | refine blk_drewN ?_ _ | refine blk_drew ?_ | refine blk_alloc ?_ _)); exact BK193.out) hb); have n5_ := Aside0.mk (below_step (by repeat (first | (with_reducible first | exact HB.out | apply below_alloc | apply pw_below_drewN | apply below_drew1 | refine below_set ?_ GE179.out | refine below_set ?_ GE193.out) | exact HB.out)) hb); have n6_ := Aside0.mk (hbox); have n7_ := Aside0.mk ((by rw [hg]; exact (below_size (by repeat (first | (with_reducible first | exact HB.out | apply below_alloc | apply pw_below_drewN | apply below_drew1 | refine below_set ?_ GE179.out | refine below_set ?_ GE193.out) | exact HB.out))) : w.heap.size ≤ gb199)); have n8_ := Aside0.mk ((by rw [hg]; exact (below_size (by repeat (first | (with_reducible first | exact HB.out | apply below_alloc | apply pw_below_drewN | apply below_drew1 | refine below_set ?_ GE179.out | refine below_set ?_ GE193.out) | exact HB.out))) : w.heap.size ≤ gb199)); have n9_ := Aside0.mk ((by rw [hg]; exact Nat.ne_of_lt (blk_lt (g := gb179) (o := .cells #[.int .i64 a0_0, .slice A0_1 l0_1.length c0_1, .bool a0_2] 34 (0, 0)) (by (with_reducible repeat (first | refine blk_drewN ?_ _ | refine blk_drew ?_ | refine blk_alloc ?_ _)); exact BK179.out)) : gb179 ≠ gb199)); have n10_ := Aside0.mk ((by rw [hg]; exact Nat.ne_of_gt (blk_lt (g := gb179) (o := .cells #[.int .i64 a0_0, .slice A0_1 l0_1.length c0_1, .bool a0_2] 34 (0, 0)) (by (with_reducible repeat (first | refine blk_drewN ?_ _ | refine blk_drew ?_ | refine blk_alloc ?_ _)); exact BK179.out)) : gb199 ≠ gb179)); have n11_ := Aside0.mk ((by rw [hg]; exact Nat.ne_of_lt (blk_lt (g := gb193) (o := .cells #[.int .i64 t186, .slice Ao22 t187.length co22, .bool t190] 26 (0, 0)) (by (with_reducible repeat (first | refine blk_drewN ?_ _ | refine blk_drew ?_ | refine blk_alloc ?_ _)); exact BK193.out)) : gb193 ≠ gb199)); have n12_ := Aside0.mk ((by rw [hg]; exact Nat.ne_of_gt (blk_lt (g := gb193) (o := .cells #[.int .i64 t186, .slice Ao22 t187.length co22, .bool t190] 26 (0, 0)) (by (with_reducible repeat (first | refine blk_drewN ?_ _ | refine blk_drew ?_ | refine blk_alloc ?_ _)); exact BK193.out)) : gb199 ≠ gb193)); clear HO184; clear HO189; clear HO197; clear BK179; clear BK193; clear HB; have HO184 := n0_; have HO189 := n1_; have HO197 := n2_; have BK179 := n3_; have BK193 := n4_; have HB := n5_; have BK199 := n6_; have GW199 := n7_; have GE199 := n8_; have NB179_199 := n9_; have NB199_179 := n10_; have NB193_199 := n11_; have NB199_193 := n12_; clear n0_ n1_ n2_ n3_ n4_ n5_ n6_ n7_ n8_ n9_ n10_ n11_ n12_; clear hb hbox hg; have hnb26 := NB199_179.out; have hnc26 := NB179_199.out; have hnb27 := NB199_193.out; have hnc27 := NB193_199.out; have hcz28_0 : w25.cell? ⟨gb199, 0, none⟩ = some (.int .i64 0) := (blk_cell BK199.out 0).trans rfl; have hcz28_1 : w25.cell? ⟨gb199, 1, none⟩ = some (.slice none 0 0) := (blk_cell BK199.out 1).trans rfl; have hcz28_2 : w25.cell? ⟨gb199, 2, none⟩ = some (.bool false) := (blk_cell BK199.out 2).trans rfl; have hfz28_0 := blk_frozen BK199.out 0; have hfz28_1 := blk_frozen BK199.out 1; have hfz28_2 := blk_frozen BK199.out 2; obtain ⟨Ao29, co29, eo29⟩ := Kd.R_slice HO197.out; subst eo29) | ((with_reducible refine gate_callee (f := 13) rfl ?_); refine goesL_ (some 33) rfl rfl Try.func13 (by kernel_rfl) rfl #[.agg #[.int .i64 t194, .slice Ao29 t195.length co29, .bool t198]] rfl (by (try simp only [List.map_toArray, List.map_cons, List.map_nil]); first | done | rfl | (simp only [List.length_drop, List.length_take]; rfl)) ?_; (with_reducible refine (impl_ChanTake.calls t194 _ _ t195 t198 t200 t201 t204 t205 t206 _ ?side1 ?side2 A10.out).mono ?_); (case side1 => refine (Kd.R_reads' (e := 3) (base := w.heap.size) (ok := fun k_ => ((True ∧ some k_ ≠ (.slice Ao17 t182.length co17 : Value).ownBlock) ∧ some k_ ≠ (.slice Ao22 t187.length co22 : Value).ownBlock)) (n := t195.length) (c := co29) ?_).2.2; exact (by (with_reducible repeat (first | apply Kd.R_alloc | apply Kd.R_drewN | apply Kd.R_drew)); exact (Kd.R_mono (Kd.R_far (p := ⟨gb199, 2, none⟩) (Kd.R_far (p := ⟨gb199, 1, none⟩) (Kd.R_far (p := ⟨gb199, 0, none⟩) (Kd.R_types HO197.out BK199.out (by decide)) (fun _ hk => hk.2) (.int .i64 t194)) (fun _ hk => hk.2) (.slice Ao29 t195.length co29)) (fun _ hk => hk.2) (.bool t198)) (fun _ h_ => h_.1)))); (case side2 => exact (Kd.R_reads' HO197.out).2.1); rintro e w30 ⟨v202, rfl, ho0, hb⟩; refine ⟨_, rfl, ?_⟩; have n0_ := Aside0.mk (Kd.R_elder' (by (with_reducible repeat (first | apply Kd.R_alloc | apply Kd.R_drewN | apply Kd.R_drew)); exact (Kd.R_mono (Kd.R_far (p := ⟨gb199, 2, none⟩) (Kd.R_far (p := ⟨gb199, 1, none⟩) (Kd.R_far (p := ⟨gb199, 0, none⟩) (Kd.R_types HO184.out BK199.out (by decide)) (fun _ hk => hk.2) (.int .i64 t194)) (fun _ hk => hk.2) (.slice Ao29 t195.length co29)) (fun _ hk => hk.2) (.bool t198)) (fun _ h_ => h_.1))) (Kd.Q_base ho0) hb); have n1_ := Aside0.mk (Kd.R_elder' (by (with_reducible repeat (first | apply Kd.R_alloc | apply Kd.R_drewN | apply Kd.R_drew)); exact (Kd.R_mono (Kd.R_far (p := ⟨gb199, 2, none⟩) (Kd.R_far (p := ⟨gb199, 1, none⟩) (Kd.R_far (p := ⟨gb199, 0, none⟩) (Kd.R_types HO189.out BK199.out (by decide)) (fun _ hk => hk.2) (.int .i64 t194)) (fun _ hk => hk.2) (.slice Ao29 t195.length co29)) (fun _ hk => hk.2) (.bool t198)) (fun _ h_ => h_.1))) (Kd.Q_base ho0) hb); have n2_ := Aside0.mk (Kd.R_elder' (by (with_reducible repeat (first | apply Kd.R_alloc | apply Kd.R_drewN | apply Kd.R_drew)); exact (Kd.R_mono (Kd.R_far (p := ⟨gb199, 2, none⟩) (Kd.R_far (p := ⟨gb199, 1, none⟩) (Kd.R_far (p := ⟨gb199, 0, none⟩) (Kd.R_types HO197.out BK199.out (by decide)) (fun _ hk => hk.2) (.int .i64 t194)) (fun _ hk => hk.2) (.slice Ao29 t195.length co29)) (fun _ hk => hk.2) (.bool t198)) (fun _ h_ => h_.1))) (Kd.Q_base ho0) hb); have n3_ := Aside0.mk (Kd.Q_lower (Kd.Q_new' (Kd.Q_new' (Kd.Q_new' ho0 (Kd.R_lt (by (with_reducible repeat (first | apply Kd.R_alloc | apply Kd.R_drewN | apply Kd.R_drew)); exact (Kd.R_mono (Kd.R_far (p := ⟨gb199, 2, none⟩) (Kd.R_far (p := ⟨gb199, 1, none⟩) (Kd.R_far (p := ⟨gb199, 0, none⟩) (Kd.R_types HO184.out BK199.out (by decide)) (fun _ hk => hk.2) (.int .i64 t194)) (fun _ hk => hk.2) (.slice Ao29 t195.length co29)) (fun _ hk => hk.2) (.bool t198)) (fun _ h_ => h_.1))))) (Kd.R_lt (by (with_reducible repeat (first | apply Kd.R_alloc | apply Kd.R_drewN | apply Kd.R_drew)); exact (Kd.R_mono (Kd.R_far (p := ⟨gb199, 2, none⟩) (Kd.R_far (p := ⟨gb199, 1, none⟩) (Kd.R_far (p := ⟨gb199, 0, none⟩) (Kd.R_types HO189.out BK199.out (by decide)) (fun _ hk => hk.2) (.int .i64 t194)) (fun _ hk => hk.2) (.slice Ao29 t195.length co29)) (fun _ hk => hk.2) (.bool t198)) (fun _ h_ => h_.1))))) (Kd.R_lt (by (with_reducible repeat (first | apply Kd.R_alloc | apply Kd.R_drewN | apply Kd.R_drew)); exact (Kd.R_mono (Kd.R_far (p := ⟨gb199, 2, none⟩) (Kd.R_far (p := ⟨gb199, 1, none⟩) (Kd.R_far (p := ⟨gb199, 0, none⟩) (Kd.R_types HO197.out BK199.out (by decide)) (fun _ hk => hk.2) (.int .i64 t194)) (fun _ hk => hk.2) (.slice Ao29 t195.length co29)) (fun _ hk => hk.2) (.bool t198)) (fun _ h_ => h_.1))))) (below_size (by repeat (first | (with_reducible first | exact HB.out | apply below_alloc | apply pw_below_drewN | apply below_drew1 | refine below_set ?_ GE179.out | refine below_set ?_ GE193.out | refine below_set ?_ GE199.out) | exact HB.out)))); have n4_ := Aside0.mk (blk_below (g := gb179) (o := .cells #[.int .i64 a0_0, .slice A0_1 l0_1.length c0_1, .bool a0_2] 34 (0, 0)) (by (with_reducible repeat (first | refine blk_drewN ?_ _ | refine blk_drew ?_ | refine blk_alloc ?_ _)); refine blk_far ?_ NB179_199.out _; (with_reducible repeat (first | refine blk_drewN ?_ _ | refine blk_drew ?_ | refine blk_alloc ?_ _)); refine blk_far ?_ NB179_199.out _; (with_reducible repeat (first | refine blk_drewN ?_ _ | refine blk_drew ?_ | refine blk_alloc ?_ _)); refine blk_far ?_ NB179_199.out _; (with_reducible repeat (first | refine blk_drewN ?_ _ | refine blk_drew ?_ | refine blk_alloc ?_ _)); exact BK179.out) hb); have n5_ := Aside0.mk (blk_below (g := gb193) (o := .cells #[.int .i64 t186, .slice Ao22 t187.length co22, .bool t190] 26 (0, 0)) (by (with_reducible repeat (first | refine blk_drewN ?_ _ | refine blk_drew ?_ | refine blk_alloc ?_ _)); refine blk_far ?_ NB193_199.out _; (with_reducible repeat (first | refine blk_drewN ?_ _ | refine blk_drew ?_ | refine blk_alloc ?_ _)); refine blk_far ?_ NB193_199.out _; (with_reducible repeat (first | refine blk_drewN ?_ _ | refine blk_drew ?_ | refine blk_alloc ?_ _)); refine blk_far ?_ NB193_199.out _; (with_reducible repeat (first | refine blk_drewN ?_ _ | refine blk_drew ?_ | refine blk_alloc ?_ _)); exact BK193.out) hb); have n6_ := Aside0.mk (blk_below (g := gb199) (o := .cells #[.int .i64 t194, .slice Ao29 t195.length co29, .bool t198] 26 (0, 0)) (by (with_reducible repeat (first | refine blk_drewN ?_ _ | refine blk_drew ?_ | refine blk_alloc ?_ _)); refine blk_put (cs := #[.int .i64 t194, .slice Ao29 t195.length co29, .bool false]) ?_ 2 _ rfl; (with_reducible repeat (first | refine blk_drewN ?_ _ | refine blk_drew ?_ | refine blk_alloc ?_ _)); refine blk_put (cs := #[.int .i64 t194, .slice none 0 0, .bool false]) ?_ 1 _ rfl; (with_reducible repeat (first | refine blk_drewN ?_ _ | refine blk_drew ?_ | refine blk_alloc ?_ _)); refine blk_put (cs := #[.int .i64 0, .slice none 0 0, .bool false]) ?_ 0 _ rfl; (with_reducible repeat (first | refine blk_drewN ?_ _ | refine blk_drew ?_ | refine blk_alloc ?_ _)); exact BK199.out) hb); have n7_ := Aside0.mk (below_step (by repeat (first | (with_reducible first | exact HB.out | apply below_alloc | apply pw_below_drewN | apply below_drew1 | refine below_set ?_ GE179.out | refine below_set ?_ GE193.out | refine below_set ?_ GE199.out) | exact HB.out)) hb); clear HO184; clear HO189; clear HO197; clear BK179; clear BK193; clear BK199; clear HB; have HO184 := n0_; have HO189 := n1_; have HO197 := n2_; have HO203 := n3_; have BK179 := n4_; have BK193 := n5_; have BK199 := n6_; have HB := n7_; clear n0_ n1_ n2_ n3_ n4_ n5_ n6_ n7_; (try clear hb); (try clear hb2); (try clear hk); (try clear hi); (try clear ho0)) | ((with_reducible refine gate_dst (N := 8) rfl ?_); refine box_event ?hg (N := 8) ?hd (cs := #[.int .i64 0, .slice none 0 0, .bool false]) (t := 26) ?hr ?_; (case hd => rfl); (case hg => rfl); (case hr => first | (go_simp; done) | (go_simp; rfl)); intro gb207 hg w31 hbox hb; have n0_ := Aside0.mk (Kd.R_below (by (with_reducible repeat (first | apply Kd.R_alloc | apply Kd.R_drewN | apply Kd.R_drew)); exact HO184.out) hb); have n1_ := Aside0.mk (Kd.R_below (by (with_reducible repeat (first | apply Kd.R_alloc | apply Kd.R_drewN | apply Kd.R_drew)); exact HO189.out) hb); have n2_ := Aside0.mk (Kd.R_below (by (with_reducible repeat (first | apply Kd.R_alloc | apply Kd.R_drewN | apply Kd.R_drew)); exact HO197.out) hb); have n3_ := Aside0.mk (Kd.Q_below (by (with_reducible repeat (first | apply Kd.Q_alloc | apply Kd.Q_drewN | apply Kd.Q_drew)); exact HO203.out) hb); have n4_ := Aside0.mk (blk_below (g := gb179) (o := .cells #[.int .i64 a0_0, .slice A0_1 l0_1.length c0_1, .bool a0_2] 34 (0, 0)) (by (with_reducible repeat (first | refine blk_drewN ?_ _ | refine blk_drew ?_ | refine blk_alloc ?_ _)); exact BK179.out) hb); have n5_ := Aside0.mk (blk_below (g := gb193) (o := .cells #[.int .i64 t186, .slice Ao22 t187.length co22, .bool t190] 26 (0, 0)) (by (with_reducible repeat (first | refine blk_drewN ?_ _ | refine blk_drew ?_ | refine blk_alloc ?_ _)); exact BK193.out) hb); have n6_ := Aside0.mk (blk_below (g := gb199) (o := .cells #[.int .i64 t194, .slice Ao29 t195.length co29, .bool t198] 26 (0, 0)) (by (with_reducible repeat (first | refine blk_drewN ?_ _ | refine blk_drew ?_ | refine blk_alloc ?_ _)); exact BK199.out) hb); have n7_ := Aside0.mk (below_step (by repeat (first | (with_reducible first | exact HB.out | apply below_alloc | apply pw_below_drewN | apply below_drew1 | refine below_set ?_ GE179.out | refine below_set ?_ GE193.out | refine below_set ?_ GE199.out) | exact HB.out)) hb); have n8_ := Aside0.mk (hbox); have n9_ := Aside0.mk ((by rw [hg]; exact (below_size (by repeat (first | (with_reducible first | exact HB.out | apply below_alloc | apply pw_below_drewN | apply below_drew1 | refine below_set ?_ GE179.out | refine below_set ?_ GE193.out | refine below_set ?_ GE199.out) | exact HB.out))) : w.heap.size ≤ gb207)); have n10_ := Aside0.mk ((by rw [hg]; exact (below_size (by repeat (first | (with_reducible first | exact HB.out | apply below_alloc | apply pw_below_drewN | apply below_drew1 | refine below_set ?_ GE179.out | refine below_set ?_ GE193.out | refine below_set ?_ GE199.out) | exact HB.out))) : w.heap.size ≤ gb207)); have n11_ := Aside0.mk ((by rw [hg]; exact Nat.ne_of_lt (blk_lt (g := gb179) (o := .cells #[.int .i64 a0_0, .slice A0_1 l0_1.length c0_1, .bool a0_2] 34 (0, 0)) (by (with_reducible repeat (first | refine blk_drewN ?_ _ | refine blk_drew ?_ | refine blk_alloc ?_ _)); exact BK179.out)) : gb179 ≠ gb207)); have n12_ := Aside0.mk ((by rw [hg]; exact Nat.ne_of_gt (blk_lt (g := gb179) (o := .cells #[.int .i64 a0_0, .slice A0_1 l0_1.length c0_1, .bool a0_2] 34 (0, 0)) (by (with_reducible repeat (first | refine blk_drewN ?_ _ | refine blk_drew ?_ | refine blk_alloc ?_ _)); exact BK179.out)) : gb207 ≠ gb179)); have n13_ := Aside0.mk ((by rw [hg]; exact Nat.ne_of_lt (blk_lt (g := gb193) (o := .cells #[.int .i64 t186, .slice Ao22 t187.length co22, .bool t190] 26 (0, 0)) (by (with_reducible repeat (first | refine blk_drewN ?_ _ | refine blk_drew ?_ | refine blk_alloc ?_ _)); exact BK193.out)) : gb193 ≠ gb207)); have n14_ := Aside0.mk ((by rw [hg]; exact Nat.ne_of_gt (blk_lt (g := gb193) (o := .cells #[.int .i64 t186, .slice Ao22 t187.length co22, .bool t190] 26 (0, 0)) (by (with_reducible repeat (first | refine blk_drewN ?_ _ | refine blk_drew ?_ | refine blk_alloc ?_ _)); exact BK193.out)) : gb207 ≠ gb193)); have n15_ := Aside0.mk ((by rw [hg]; exact Nat.ne_of_lt (blk_lt (g := gb199) (o := .cells #[.int .i64 t194, .slice Ao29 t195.length co29, .bool t198] 26 (0, 0)) (by (with_reducible repeat (first | refine blk_drewN ?_ _ | refine blk_drew ?_ | refine blk_alloc ?_ _)); exact BK199.out)) : gb199 ≠ gb207)); have n16_ := Aside0.mk ((by rw [hg]; exact Nat.ne_of_gt (blk_lt (g := gb199) (o := .cells #[.int .i64 t194, .slice Ao29 t195.length co29, .bool t198] 26 (0, 0)) (by (with_reducible repeat (first | refine blk_drewN ?_ _ | refine blk_drew ?_ | refine blk_alloc ?_ _)); exact BK199.out)) : gb207 ≠ gb199)); clear HO184; clear HO189; clear HO197; clear HO203; clear BK179; clear BK193; clear BK199; clear HB; have HO184 := n0_; have HO189 := n1_; have HO197 := n2_; have HO203 := n3_; have BK179 := n4_; have BK193 := n5_; have BK199 := n6_; have HB := n7_; have BK207 := n8_; have GW207 := n9_; have GE207 := n10_; have NB179_207 := n11_; have NB207_179 := n12_; have NB193_207 := n13_; have NB207_193 := n14_; have NB199_207 := n15_; have NB207_199 := n16_; clear n0_ n1_ n2_ n3_ n4_ n5_ n6_ n7_ n8_ n9_ n10_ n11_ n12_ n13_ n14_ n15_ n16_; clear hb hbox hg; have hnb32 := NB207_179.out; have hnc32 := NB179_207.out; have hnb33 := NB207_193.out; have hnc33 := NB193_207.out; have hnb34 := NB207_199.out; have hnc34 := NB199_207.out; have hcz35_0 : w31.cell? ⟨gb207, 0, none⟩ = some (.int .i64 0) := (blk_cell BK207.out 0).trans rfl; have hcz35_1 : w31.cell? ⟨gb207, 1, none⟩ = some (.slice none 0 0) := (blk_cell BK207.out 1).trans rfl; have hcz35_2 : w31.cell? ⟨gb207, 2, none⟩ = some (.bool false) := (blk_cell BK207.out 2).trans rfl; have hfz35_0 := blk_frozen BK207.out 0; have hfz35_1 := blk_frozen BK207.out 1; have hfz35_2 := blk_frozen BK207.out 2; obtain ⟨Ao36, co36, eo36, _⟩ := Kd.Q_slice HO203.out; subst eo36))
    (try simp only [Act.put, List.setIfInBounds_toArray, List.set_cons_zero, List.set_cons_succ])
    go_cut [50] (fun v50 wc => ∃ (kq : Nat) (x50_10 : Bool), v50 = .bool x50_10 ∧ Aside0 (laws_FnExactChanTake.j0 kq t191 t192 t205 t206 x50_10 a0_0 l0_1 a0_2 t186 t187 t190 t194 t195 t198 t200 t201 t204 = some r) ∧ Aside0 (kq ≤ k) ∧ Aside0 (Kd.Q (Kd.int .i64) 3 wc w.heap.size (fun k_ => some k_ ≠ ((.slice Ao29 t195.length co29) : Value).ownBlock ∧ some k_ ≠ ((.slice Ao36 t201.length co36) : Value).ownBlock) (.slice Ao22 t187.length co22) t187) ∧ Aside0 (Kd.Q (Kd.int .i64) 3 wc w.heap.size (fun k_ => some k_ ≠ ((.slice Ao22 t187.length co22) : Value).ownBlock ∧ some k_ ≠ ((.slice Ao36 t201.length co36) : Value).ownBlock) (.slice Ao29 t195.length co29) t195) ∧ Aside0 (Kd.Q (Kd.int .i64) 3 wc w.heap.size (fun k_ => some k_ ≠ ((.slice Ao22 t187.length co22) : Value).ownBlock ∧ some k_ ≠ ((.slice Ao29 t195.length co29) : Value).ownBlock) (.slice Ao36 t201.length co36) t201) ∧ Aside0 (wc.heap[gb179]? = some (.cells #[.int .i64 a0_0, (.slice A0_1 l0_1.length c0_1), .bool a0_2] 34 (0, 0))) ∧ Aside0 (wc.heap[gb193]? = some (.cells #[.int .i64 t186, (.slice Ao22 t187.length co22), .bool t190] 26 (0, 0))) ∧ Aside0 (wc.heap[gb199]? = some (.cells #[.int .i64 t194, (.slice Ao29 t195.length co29), .bool t198] 26 (0, 0))) ∧ Aside0 (wc.heap[gb207]? = some (.cells #[.int .i64 t200, (.slice Ao36 t201.length co36), .bool t204] 26 (0, 0))) ∧ Aside0 (Below w.heap.size w wc))
    case first =>
      have H := HC11.out
      clear HC11
      replace H := Option.bind_eq_some_iff.mp H
      obtain ⟨t208, A370, H⟩ := H
      replace H : (if t208 = true then (if t205 = t191 then (laws_FnExactChanTake.j0 k t191 t192 t205 t206 (t206 != t192) a0_0 l0_1 a0_2 t186 t187 t190 t194 t195 t198 t200 t201 t204) else (laws_FnExactChanTake.j0 k t191 t192 t205 t206 true a0_0 l0_1 a0_2 t186 t187 t190 t194 t195 t198 t200 t201 t204)) else (laws_FnExactChanTake.j0 k t191 t192 t205 t206 true a0_0 l0_1 a0_2 t186 t187 t190 t194 t195 t198 t200 t201 t204)) = some r := H
      have A37 := Aside0.mk A370
      clear A370
      by_cases c38 : t208 = true
      · subst c38
        have H1 : (if t205 = t191 then (laws_FnExactChanTake.j0 k t191 t192 t205 t206 (t206 != t192) a0_0 l0_1 a0_2 t186 t187 t190 t194 t195 t198 t200 t201 t204) else (laws_FnExactChanTake.j0 k t191 t192 t205 t206 true a0_0 l0_1 a0_2 t186 t187 t190 t194 t195 t198 t200 t201 t204)) = some r := by rw [if_pos rfl] at H; exact H
        clear H
        have H := H1
        clear H1
        by_cases c39 : t205 = t191
        · rw [if_pos c39] at H
          have c39b0 : (t205 == t191) = true := beq_iff_eq.mpr c39
          have c39b1 : (t205 != t191) = false := bne_eq_false_iff_eq.mpr c39
          clear c39
          (first | rw [c39b0] | (simp only [i64_w, i32_w]; rw [c39b0]) | skip)
          have H' := Aside0.mk H
          clear H
          have hnb40 := NB207_179.out
          have hnc40 := NB179_207.out
          have hnb41 := NB207_193.out
          have hnc41 := NB193_207.out
          have hnb42 := NB207_199.out
          have hnc42 := NB199_207.out
          have hcz43_0 : w31.cell? ⟨gb207, 0, none⟩ = some (.int .i64 0) := (blk_cell BK207.out 0).trans rfl
          have hcz43_1 : w31.cell? ⟨gb207, 1, none⟩ = some (.slice none 0 0) := (blk_cell BK207.out 1).trans rfl
          have hcz43_2 : w31.cell? ⟨gb207, 2, none⟩ = some (.bool false) := (blk_cell BK207.out 2).trans rfl
          have hfz43_0 := blk_frozen BK207.out 0
          have hfz43_1 := blk_frozen BK207.out 1
          have hfz43_2 := blk_frozen BK207.out 2
          have hnb44 := NB193_179.out
          have hnc44 := NB179_193.out
          have hnb45 := NB193_199.out
          have hnc45 := NB199_193.out
          have hcz46_0 : w31.cell? ⟨gb193, 0, none⟩ = some (.int .i64 t186) := (blk_cell BK193.out 0).trans rfl
          have hcz46_1 : w31.cell? ⟨gb193, 1, none⟩ = some (.slice Ao22 t187.length co22) := (blk_cell BK193.out 1).trans rfl
          have hcz46_2 : w31.cell? ⟨gb193, 2, none⟩ = some (.bool t190) := (blk_cell BK193.out 2).trans rfl
          have hfz46_0 := blk_frozen BK193.out 0
          have hfz46_1 := blk_frozen BK193.out 1
          have hfz46_2 := blk_frozen BK193.out 2
          go_wp2_with (first | ((with_reducible refine gate_callee (f := 19) rfl ?_); refine goesL_ (some 39) rfl rfl Try.func19 (by kernel_rfl) rfl #[.agg #[.int .i64 t200, .slice Ao36 t201.length co36, .bool t204], .agg #[.int .i64 t186, .slice Ao22 t187.length co22, .bool t190]] rfl (by (try simp only [List.map_toArray, List.map_cons, List.map_nil]); first | done | rfl | (simp only [List.length_drop, List.length_take]; rfl)) ?_; (with_reducible refine (laws_eqChan.calls k t200 _ _ t201 t204 t186 _ _ t187 t190 true _ ?side1 ?side2 ?side3 ?side4 A37.out).mono ?_); (case side1 => refine (Kd.Q_reads' (e := 3) (base := w.heap.size) (ok := fun k_ => (((True ∧ some k_ ≠ (.slice Ao17 t182.length co17 : Value).ownBlock) ∧ some k_ ≠ (.slice Ao22 t187.length co22 : Value).ownBlock) ∧ some k_ ≠ (.slice Ao29 t195.length co29 : Value).ownBlock)) (n := t201.length) (c := co36) ?_).2.2; exact (by (with_reducible repeat (first | apply Kd.Q_alloc | apply Kd.Q_drewN | apply Kd.Q_drew)); exact (Kd.Q_mono (Kd.Q_far (p := ⟨gb207, 2, none⟩) (Kd.Q_far (p := ⟨gb207, 1, none⟩) (Kd.Q_far (p := ⟨gb207, 0, none⟩) (Kd.Q_types HO203.out BK207.out (by decide)) (fun _ hk => hk.2) (.int .i64 t200)) (fun _ hk => hk.2) (.slice Ao36 t201.length co36)) (fun _ hk => hk.2) (.bool t204)) (fun _ h_ => h_.1)))); (case side2 => exact (Kd.Q_reads' HO203.out).2.1); (case side3 => refine (Kd.R_reads' (e := 3) (base := w.heap.size) (ok := fun k_ => (((True ∧ some k_ ≠ (.slice Ao17 t182.length co17 : Value).ownBlock) ∧ some k_ ≠ (.slice Ao29 t195.length co29 : Value).ownBlock) ∧ some k_ ≠ (.slice Ao36 t201.length co36 : Value).ownBlock)) (n := t187.length) (c := co22) ?_).2.2; exact (by (with_reducible repeat (first | apply Kd.R_alloc | apply Kd.R_drewN | apply Kd.R_drew)); exact (Kd.R_mono (Kd.R_far (p := ⟨gb207, 2, none⟩) (Kd.R_far (p := ⟨gb207, 1, none⟩) (Kd.R_far (p := ⟨gb207, 0, none⟩) (Kd.R_types HO189.out BK207.out (by decide)) (fun _ hk => hk.2) (.int .i64 t200)) (fun _ hk => hk.2) (.slice Ao36 t201.length co36)) (fun _ hk => hk.2) (.bool t204)) (fun _ h_ => h_.1)))); (case side4 => exact (Kd.R_reads' HO189.out).2.1); rintro e w47 ⟨rfl, hb⟩; refine ⟨_, rfl, ?_⟩; have n0_ := Aside0.mk (Kd.R_below (by (with_reducible repeat (first | apply Kd.R_alloc | apply Kd.R_drewN | apply Kd.R_drew)); exact (Kd.R_mono (Kd.R_far (p := ⟨gb207, 2, none⟩) (Kd.R_far (p := ⟨gb207, 1, none⟩) (Kd.R_far (p := ⟨gb207, 0, none⟩) (Kd.R_types HO184.out BK207.out (by decide)) (fun _ hk => hk.2) (.int .i64 t200)) (fun _ hk => hk.2) (.slice Ao36 t201.length co36)) (fun _ hk => hk.2) (.bool t204)) (fun _ h_ => h_.1))) hb); have n1_ := Aside0.mk (Kd.R_below (by (with_reducible repeat (first | apply Kd.R_alloc | apply Kd.R_drewN | apply Kd.R_drew)); exact (Kd.R_mono (Kd.R_far (p := ⟨gb207, 2, none⟩) (Kd.R_far (p := ⟨gb207, 1, none⟩) (Kd.R_far (p := ⟨gb207, 0, none⟩) (Kd.R_types HO189.out BK207.out (by decide)) (fun _ hk => hk.2) (.int .i64 t200)) (fun _ hk => hk.2) (.slice Ao36 t201.length co36)) (fun _ hk => hk.2) (.bool t204)) (fun _ h_ => h_.1))) hb); have n2_ := Aside0.mk (Kd.R_below (by (with_reducible repeat (first | apply Kd.R_alloc | apply Kd.R_drewN | apply Kd.R_drew)); exact (Kd.R_mono (Kd.R_far (p := ⟨gb207, 2, none⟩) (Kd.R_far (p := ⟨gb207, 1, none⟩) (Kd.R_far (p := ⟨gb207, 0, none⟩) (Kd.R_types HO197.out BK207.out (by decide)) (fun _ hk => hk.2) (.int .i64 t200)) (fun _ hk => hk.2) (.slice Ao36 t201.length co36)) (fun _ hk => hk.2) (.bool t204)) (fun _ h_ => h_.1))) hb); have n3_ := Aside0.mk (Kd.Q_below (by (with_reducible repeat (first | apply Kd.Q_alloc | apply Kd.Q_drewN | apply Kd.Q_drew)); exact (Kd.Q_mono (Kd.Q_far (p := ⟨gb207, 2, none⟩) (Kd.Q_far (p := ⟨gb207, 1, none⟩) (Kd.Q_far (p := ⟨gb207, 0, none⟩) (Kd.Q_types HO203.out BK207.out (by decide)) (fun _ hk => hk.2) (.int .i64 t200)) (fun _ hk => hk.2) (.slice Ao36 t201.length co36)) (fun _ hk => hk.2) (.bool t204)) (fun _ h_ => h_.1))) hb); have n4_ := Aside0.mk (blk_below (g := gb179) (o := .cells #[.int .i64 a0_0, .slice A0_1 l0_1.length c0_1, .bool a0_2] 34 (0, 0)) (by (with_reducible repeat (first | refine blk_drewN ?_ _ | refine blk_drew ?_ | refine blk_alloc ?_ _)); refine blk_far ?_ NB179_207.out _; (with_reducible repeat (first | refine blk_drewN ?_ _ | refine blk_drew ?_ | refine blk_alloc ?_ _)); refine blk_far ?_ NB179_207.out _; (with_reducible repeat (first | refine blk_drewN ?_ _ | refine blk_drew ?_ | refine blk_alloc ?_ _)); refine blk_far ?_ NB179_207.out _; (with_reducible repeat (first | refine blk_drewN ?_ _ | refine blk_drew ?_ | refine blk_alloc ?_ _)); exact BK179.out) hb); have n5_ := Aside0.mk (blk_below (g := gb193) (o := .cells #[.int .i64 t186, .slice Ao22 t187.length co22, .bool t190] 26 (0, 0)) (by (with_reducible repeat (first | refine blk_drewN ?_ _ | refine blk_drew ?_ | refine blk_alloc ?_ _)); refine blk_far ?_ NB193_207.out _; (with_reducible repeat (first | refine blk_drewN ?_ _ | refine blk_drew ?_ | refine blk_alloc ?_ _)); refine blk_far ?_ NB193_207.out _; (with_reducible repeat (first | refine blk_drewN ?_ _ | refine blk_drew ?_ | refine blk_alloc ?_ _)); refine blk_far ?_ NB193_207.out _; (with_reducible repeat (first | refine blk_drewN ?_ _ | refine blk_drew ?_ | refine blk_alloc ?_ _)); exact BK193.out) hb); have n6_ := Aside0.mk (blk_below (g := gb199) (o := .cells #[.int .i64 t194, .slice Ao29 t195.length co29, .bool t198] 26 (0, 0)) (by (with_reducible repeat (first | refine blk_drewN ?_ _ | refine blk_drew ?_ | refine blk_alloc ?_ _)); refine blk_far ?_ NB199_207.out _; (with_reducible repeat (first | refine blk_drewN ?_ _ | refine blk_drew ?_ | refine blk_alloc ?_ _)); refine blk_far ?_ NB199_207.out _; (with_reducible repeat (first | refine blk_drewN ?_ _ | refine blk_drew ?_ | refine blk_alloc ?_ _)); refine blk_far ?_ NB199_207.out _; (with_reducible repeat (first | refine blk_drewN ?_ _ | refine blk_drew ?_ | refine blk_alloc ?_ _)); exact BK199.out) hb); have n7_ := Aside0.mk (blk_below (g := gb207) (o := .cells #[.int .i64 t200, .slice Ao36 t201.length co36, .bool t204] 26 (0, 0)) (by (with_reducible repeat (first | refine blk_drewN ?_ _ | refine blk_drew ?_ | refine blk_alloc ?_ _)); refine blk_put (cs := #[.int .i64 t200, .slice Ao36 t201.length co36, .bool false]) ?_ 2 _ rfl; (with_reducible repeat (first | refine blk_drewN ?_ _ | refine blk_drew ?_ | refine blk_alloc ?_ _)); refine blk_put (cs := #[.int .i64 t200, .slice none 0 0, .bool false]) ?_ 1 _ rfl; (with_reducible repeat (first | refine blk_drewN ?_ _ | refine blk_drew ?_ | refine blk_alloc ?_ _)); refine blk_put (cs := #[.int .i64 0, .slice none 0 0, .bool false]) ?_ 0 _ rfl; (with_reducible repeat (first | refine blk_drewN ?_ _ | refine blk_drew ?_ | refine blk_alloc ?_ _)); exact BK207.out) hb); have n8_ := Aside0.mk (below_step (by repeat (first | (with_reducible first | exact HB.out | apply below_alloc | apply pw_below_drewN | apply below_drew1 | refine below_set ?_ GE179.out | refine below_set ?_ GE193.out | refine below_set ?_ GE199.out | refine below_set ?_ GE207.out) | exact HB.out)) hb); clear HO184; clear HO189; clear HO197; clear HO203; clear BK179; clear BK193; clear BK199; clear BK207; clear HB; have HO184 := n0_; have HO189 := n1_; have HO197 := n2_; have HO203 := n3_; have BK179 := n4_; have BK193 := n5_; have BK199 := n6_; have BK207 := n7_; have HB := n8_; clear n0_ n1_ n2_ n3_ n4_ n5_ n6_ n7_ n8_; (try clear hb); (try clear hb2); (try clear hk); (try clear hi)))
          go_meet
          case rel => exact ⟨_, ((t206 != t192)), (by first | rfl | (simp; done) | (simp [*]; done)), H', ⟨by first | omega | exact Nat.le_refl _⟩, ⟨Kd.Q_of_R (by (with_reducible repeat (first | apply Kd.R_alloc | apply Kd.R_drewN | apply Kd.R_drew)); exact Kd.R_mono HO189.out (fun _ hk => ⟨hk.1.2, hk.2⟩))⟩, ⟨Kd.Q_of_R (by (with_reducible repeat (first | apply Kd.R_alloc | apply Kd.R_drewN | apply Kd.R_drew)); exact Kd.R_mono HO197.out (fun _ hk => ⟨hk.1.2, hk.2⟩))⟩, ⟨by (with_reducible repeat (first | apply Kd.Q_alloc | apply Kd.Q_drewN | apply Kd.Q_drew)); exact Kd.Q_mono HO203.out (fun _ hk => ⟨hk.1.2, hk.2⟩)⟩, ⟨by (with_reducible repeat (first | refine blk_drewN ?_ _ | refine blk_drew ?_ | refine blk_alloc ?_ _)); exact BK179.out⟩, ⟨by (with_reducible repeat (first | refine blk_drewN ?_ _ | refine blk_drew ?_ | refine blk_alloc ?_ _)); exact BK193.out⟩, ⟨by (with_reducible repeat (first | refine blk_drewN ?_ _ | refine blk_drew ?_ | refine blk_alloc ?_ _)); exact BK199.out⟩, ⟨by (with_reducible repeat (first | refine blk_drewN ?_ _ | refine blk_drew ?_ | refine blk_alloc ?_ _)); exact BK207.out⟩, ⟨by repeat (first | (with_reducible first | exact HB.out | apply below_alloc | apply pw_below_drewN | apply below_drew1 | refine below_set ?_ GE179.out | refine below_set ?_ GE193.out | refine below_set ?_ GE199.out | refine below_set ?_ GE207.out) | exact HB.out)⟩⟩
        · rw [if_neg c39] at H
          have c39b0 : (t205 == t191) = false := beq_eq_false_iff_ne.mpr c39
          have c39b1 : (t205 != t191) = true := bne_iff_ne.mpr c39
          (first | rw [c39b0] | (simp only [i64_w, i32_w]; rw [c39b0]) | skip)
          have H' := Aside0.mk H
          clear H
          have hnb48 := NB207_179.out
          have hnc48 := NB179_207.out
          have hnb49 := NB207_193.out
          have hnc49 := NB193_207.out
          have hnb50 := NB207_199.out
          have hnc50 := NB199_207.out
          have hcz51_0 : w31.cell? ⟨gb207, 0, none⟩ = some (.int .i64 0) := (blk_cell BK207.out 0).trans rfl
          have hcz51_1 : w31.cell? ⟨gb207, 1, none⟩ = some (.slice none 0 0) := (blk_cell BK207.out 1).trans rfl
          have hcz51_2 : w31.cell? ⟨gb207, 2, none⟩ = some (.bool false) := (blk_cell BK207.out 2).trans rfl
          have hfz51_0 := blk_frozen BK207.out 0
          have hfz51_1 := blk_frozen BK207.out 1
          have hfz51_2 := blk_frozen BK207.out 2
          have hnb52 := NB193_179.out
          have hnc52 := NB179_193.out
          have hnb53 := NB193_199.out
          have hnc53 := NB199_193.out
          have hcz54_0 : w31.cell? ⟨gb193, 0, none⟩ = some (.int .i64 t186) := (blk_cell BK193.out 0).trans rfl
          have hcz54_1 : w31.cell? ⟨gb193, 1, none⟩ = some (.slice Ao22 t187.length co22) := (blk_cell BK193.out 1).trans rfl
          have hcz54_2 : w31.cell? ⟨gb193, 2, none⟩ = some (.bool t190) := (blk_cell BK193.out 2).trans rfl
          have hfz54_0 := blk_frozen BK193.out 0
          have hfz54_1 := blk_frozen BK193.out 1
          have hfz54_2 := blk_frozen BK193.out 2
          go_wp2_with (first | ((with_reducible refine gate_callee (f := 19) rfl ?_); refine goesL_ (some 39) rfl rfl Try.func19 (by kernel_rfl) rfl #[.agg #[.int .i64 t200, .slice Ao36 t201.length co36, .bool t204], .agg #[.int .i64 t186, .slice Ao22 t187.length co22, .bool t190]] rfl (by (try simp only [List.map_toArray, List.map_cons, List.map_nil]); first | done | rfl | (simp only [List.length_drop, List.length_take]; rfl)) ?_; (with_reducible refine (laws_eqChan.calls k t200 _ _ t201 t204 t186 _ _ t187 t190 true _ ?side1 ?side2 ?side3 ?side4 A37.out).mono ?_); (case side1 => refine (Kd.Q_reads' (e := 3) (base := w.heap.size) (ok := fun k_ => (((True ∧ some k_ ≠ (.slice Ao17 t182.length co17 : Value).ownBlock) ∧ some k_ ≠ (.slice Ao22 t187.length co22 : Value).ownBlock) ∧ some k_ ≠ (.slice Ao29 t195.length co29 : Value).ownBlock)) (n := t201.length) (c := co36) ?_).2.2; exact (by (with_reducible repeat (first | apply Kd.Q_alloc | apply Kd.Q_drewN | apply Kd.Q_drew)); exact (Kd.Q_mono (Kd.Q_far (p := ⟨gb207, 2, none⟩) (Kd.Q_far (p := ⟨gb207, 1, none⟩) (Kd.Q_far (p := ⟨gb207, 0, none⟩) (Kd.Q_types HO203.out BK207.out (by decide)) (fun _ hk => hk.2) (.int .i64 t200)) (fun _ hk => hk.2) (.slice Ao36 t201.length co36)) (fun _ hk => hk.2) (.bool t204)) (fun _ h_ => h_.1)))); (case side2 => exact (Kd.Q_reads' HO203.out).2.1); (case side3 => refine (Kd.R_reads' (e := 3) (base := w.heap.size) (ok := fun k_ => (((True ∧ some k_ ≠ (.slice Ao17 t182.length co17 : Value).ownBlock) ∧ some k_ ≠ (.slice Ao29 t195.length co29 : Value).ownBlock) ∧ some k_ ≠ (.slice Ao36 t201.length co36 : Value).ownBlock)) (n := t187.length) (c := co22) ?_).2.2; exact (by (with_reducible repeat (first | apply Kd.R_alloc | apply Kd.R_drewN | apply Kd.R_drew)); exact (Kd.R_mono (Kd.R_far (p := ⟨gb207, 2, none⟩) (Kd.R_far (p := ⟨gb207, 1, none⟩) (Kd.R_far (p := ⟨gb207, 0, none⟩) (Kd.R_types HO189.out BK207.out (by decide)) (fun _ hk => hk.2) (.int .i64 t200)) (fun _ hk => hk.2) (.slice Ao36 t201.length co36)) (fun _ hk => hk.2) (.bool t204)) (fun _ h_ => h_.1)))); (case side4 => exact (Kd.R_reads' HO189.out).2.1); rintro e w55 ⟨rfl, hb⟩; refine ⟨_, rfl, ?_⟩; have n0_ := Aside0.mk (Kd.R_below (by (with_reducible repeat (first | apply Kd.R_alloc | apply Kd.R_drewN | apply Kd.R_drew)); exact (Kd.R_mono (Kd.R_far (p := ⟨gb207, 2, none⟩) (Kd.R_far (p := ⟨gb207, 1, none⟩) (Kd.R_far (p := ⟨gb207, 0, none⟩) (Kd.R_types HO184.out BK207.out (by decide)) (fun _ hk => hk.2) (.int .i64 t200)) (fun _ hk => hk.2) (.slice Ao36 t201.length co36)) (fun _ hk => hk.2) (.bool t204)) (fun _ h_ => h_.1))) hb); have n1_ := Aside0.mk (Kd.R_below (by (with_reducible repeat (first | apply Kd.R_alloc | apply Kd.R_drewN | apply Kd.R_drew)); exact (Kd.R_mono (Kd.R_far (p := ⟨gb207, 2, none⟩) (Kd.R_far (p := ⟨gb207, 1, none⟩) (Kd.R_far (p := ⟨gb207, 0, none⟩) (Kd.R_types HO189.out BK207.out (by decide)) (fun _ hk => hk.2) (.int .i64 t200)) (fun _ hk => hk.2) (.slice Ao36 t201.length co36)) (fun _ hk => hk.2) (.bool t204)) (fun _ h_ => h_.1))) hb); have n2_ := Aside0.mk (Kd.R_below (by (with_reducible repeat (first | apply Kd.R_alloc | apply Kd.R_drewN | apply Kd.R_drew)); exact (Kd.R_mono (Kd.R_far (p := ⟨gb207, 2, none⟩) (Kd.R_far (p := ⟨gb207, 1, none⟩) (Kd.R_far (p := ⟨gb207, 0, none⟩) (Kd.R_types HO197.out BK207.out (by decide)) (fun _ hk => hk.2) (.int .i64 t200)) (fun _ hk => hk.2) (.slice Ao36 t201.length co36)) (fun _ hk => hk.2) (.bool t204)) (fun _ h_ => h_.1))) hb); have n3_ := Aside0.mk (Kd.Q_below (by (with_reducible repeat (first | apply Kd.Q_alloc | apply Kd.Q_drewN | apply Kd.Q_drew)); exact (Kd.Q_mono (Kd.Q_far (p := ⟨gb207, 2, none⟩) (Kd.Q_far (p := ⟨gb207, 1, none⟩) (Kd.Q_far (p := ⟨gb207, 0, none⟩) (Kd.Q_types HO203.out BK207.out (by decide)) (fun _ hk => hk.2) (.int .i64 t200)) (fun _ hk => hk.2) (.slice Ao36 t201.length co36)) (fun _ hk => hk.2) (.bool t204)) (fun _ h_ => h_.1))) hb); have n4_ := Aside0.mk (blk_below (g := gb179) (o := .cells #[.int .i64 a0_0, .slice A0_1 l0_1.length c0_1, .bool a0_2] 34 (0, 0)) (by (with_reducible repeat (first | refine blk_drewN ?_ _ | refine blk_drew ?_ | refine blk_alloc ?_ _)); refine blk_far ?_ NB179_207.out _; (with_reducible repeat (first | refine blk_drewN ?_ _ | refine blk_drew ?_ | refine blk_alloc ?_ _)); refine blk_far ?_ NB179_207.out _; (with_reducible repeat (first | refine blk_drewN ?_ _ | refine blk_drew ?_ | refine blk_alloc ?_ _)); refine blk_far ?_ NB179_207.out _; (with_reducible repeat (first | refine blk_drewN ?_ _ | refine blk_drew ?_ | refine blk_alloc ?_ _)); exact BK179.out) hb); have n5_ := Aside0.mk (blk_below (g := gb193) (o := .cells #[.int .i64 t186, .slice Ao22 t187.length co22, .bool t190] 26 (0, 0)) (by (with_reducible repeat (first | refine blk_drewN ?_ _ | refine blk_drew ?_ | refine blk_alloc ?_ _)); refine blk_far ?_ NB193_207.out _; (with_reducible repeat (first | refine blk_drewN ?_ _ | refine blk_drew ?_ | refine blk_alloc ?_ _)); refine blk_far ?_ NB193_207.out _; (with_reducible repeat (first | refine blk_drewN ?_ _ | refine blk_drew ?_ | refine blk_alloc ?_ _)); refine blk_far ?_ NB193_207.out _; (with_reducible repeat (first | refine blk_drewN ?_ _ | refine blk_drew ?_ | refine blk_alloc ?_ _)); exact BK193.out) hb); have n6_ := Aside0.mk (blk_below (g := gb199) (o := .cells #[.int .i64 t194, .slice Ao29 t195.length co29, .bool t198] 26 (0, 0)) (by (with_reducible repeat (first | refine blk_drewN ?_ _ | refine blk_drew ?_ | refine blk_alloc ?_ _)); refine blk_far ?_ NB199_207.out _; (with_reducible repeat (first | refine blk_drewN ?_ _ | refine blk_drew ?_ | refine blk_alloc ?_ _)); refine blk_far ?_ NB199_207.out _; (with_reducible repeat (first | refine blk_drewN ?_ _ | refine blk_drew ?_ | refine blk_alloc ?_ _)); refine blk_far ?_ NB199_207.out _; (with_reducible repeat (first | refine blk_drewN ?_ _ | refine blk_drew ?_ | refine blk_alloc ?_ _)); exact BK199.out) hb); have n7_ := Aside0.mk (blk_below (g := gb207) (o := .cells #[.int .i64 t200, .slice Ao36 t201.length co36, .bool t204] 26 (0, 0)) (by (with_reducible repeat (first | refine blk_drewN ?_ _ | refine blk_drew ?_ | refine blk_alloc ?_ _)); refine blk_put (cs := #[.int .i64 t200, .slice Ao36 t201.length co36, .bool false]) ?_ 2 _ rfl; (with_reducible repeat (first | refine blk_drewN ?_ _ | refine blk_drew ?_ | refine blk_alloc ?_ _)); refine blk_put (cs := #[.int .i64 t200, .slice none 0 0, .bool false]) ?_ 1 _ rfl; (with_reducible repeat (first | refine blk_drewN ?_ _ | refine blk_drew ?_ | refine blk_alloc ?_ _)); refine blk_put (cs := #[.int .i64 0, .slice none 0 0, .bool false]) ?_ 0 _ rfl; (with_reducible repeat (first | refine blk_drewN ?_ _ | refine blk_drew ?_ | refine blk_alloc ?_ _)); exact BK207.out) hb); have n8_ := Aside0.mk (below_step (by repeat (first | (with_reducible first | exact HB.out | apply below_alloc | apply pw_below_drewN | apply below_drew1 | refine below_set ?_ GE179.out | refine below_set ?_ GE193.out | refine below_set ?_ GE199.out | refine below_set ?_ GE207.out) | exact HB.out)) hb); clear HO184; clear HO189; clear HO197; clear HO203; clear BK179; clear BK193; clear BK199; clear BK207; clear HB; have HO184 := n0_; have HO189 := n1_; have HO197 := n2_; have HO203 := n3_; have BK179 := n4_; have BK193 := n5_; have BK199 := n6_; have BK207 := n7_; have HB := n8_; clear n0_ n1_ n2_ n3_ n4_ n5_ n6_ n7_ n8_; (try clear hb); (try clear hb2); (try clear hk); (try clear hi)))
          go_meet
          case rel => exact ⟨_, (true), (by first | rfl | (simp; done) | (simp [*]; done)), H', ⟨by first | omega | exact Nat.le_refl _⟩, ⟨Kd.Q_of_R (by (with_reducible repeat (first | apply Kd.R_alloc | apply Kd.R_drewN | apply Kd.R_drew)); exact Kd.R_mono HO189.out (fun _ hk => ⟨hk.1.2, hk.2⟩))⟩, ⟨Kd.Q_of_R (by (with_reducible repeat (first | apply Kd.R_alloc | apply Kd.R_drewN | apply Kd.R_drew)); exact Kd.R_mono HO197.out (fun _ hk => ⟨hk.1.2, hk.2⟩))⟩, ⟨by (with_reducible repeat (first | apply Kd.Q_alloc | apply Kd.Q_drewN | apply Kd.Q_drew)); exact Kd.Q_mono HO203.out (fun _ hk => ⟨hk.1.2, hk.2⟩)⟩, ⟨by (with_reducible repeat (first | refine blk_drewN ?_ _ | refine blk_drew ?_ | refine blk_alloc ?_ _)); exact BK179.out⟩, ⟨by (with_reducible repeat (first | refine blk_drewN ?_ _ | refine blk_drew ?_ | refine blk_alloc ?_ _)); exact BK193.out⟩, ⟨by (with_reducible repeat (first | refine blk_drewN ?_ _ | refine blk_drew ?_ | refine blk_alloc ?_ _)); exact BK199.out⟩, ⟨by (with_reducible repeat (first | refine blk_drewN ?_ _ | refine blk_drew ?_ | refine blk_alloc ?_ _)); exact BK207.out⟩, ⟨by repeat (first | (with_reducible first | exact HB.out | apply below_alloc | apply pw_below_drewN | apply below_drew1 | refine below_set ?_ GE179.out | refine below_set ?_ GE193.out | refine below_set ?_ GE199.out | refine below_set ?_ GE207.out) | exact HB.out)⟩⟩
      · replace c38 := Bool.eq_false_iff.mpr c38
        subst c38
        have H1 : (laws_FnExactChanTake.j0 k t191 t192 t205 t206 true a0_0 l0_1 a0_2 t186 t187 t190 t194 t195 t198 t200 t201 t204) = some r := by rw [if_neg (show ¬ (false = true) by decide)] at H; exact H
        clear H
        have H := H1
        clear H1
        have H' := Aside0.mk H
        clear H
        have hnb56 := NB207_179.out
        have hnc56 := NB179_207.out
        have hnb57 := NB207_193.out
        have hnc57 := NB193_207.out
        have hnb58 := NB207_199.out
        have hnc58 := NB199_207.out
        have hcz59_0 : w31.cell? ⟨gb207, 0, none⟩ = some (.int .i64 0) := (blk_cell BK207.out 0).trans rfl
        have hcz59_1 : w31.cell? ⟨gb207, 1, none⟩ = some (.slice none 0 0) := (blk_cell BK207.out 1).trans rfl
        have hcz59_2 : w31.cell? ⟨gb207, 2, none⟩ = some (.bool false) := (blk_cell BK207.out 2).trans rfl
        have hfz59_0 := blk_frozen BK207.out 0
        have hfz59_1 := blk_frozen BK207.out 1
        have hfz59_2 := blk_frozen BK207.out 2
        have hnb60 := NB193_179.out
        have hnc60 := NB179_193.out
        have hnb61 := NB193_199.out
        have hnc61 := NB199_193.out
        have hcz62_0 : w31.cell? ⟨gb193, 0, none⟩ = some (.int .i64 t186) := (blk_cell BK193.out 0).trans rfl
        have hcz62_1 : w31.cell? ⟨gb193, 1, none⟩ = some (.slice Ao22 t187.length co22) := (blk_cell BK193.out 1).trans rfl
        have hcz62_2 : w31.cell? ⟨gb193, 2, none⟩ = some (.bool t190) := (blk_cell BK193.out 2).trans rfl
        have hfz62_0 := blk_frozen BK193.out 0
        have hfz62_1 := blk_frozen BK193.out 1
        have hfz62_2 := blk_frozen BK193.out 2
        go_wp2_with (first | ((with_reducible refine gate_callee (f := 19) rfl ?_); refine goesL_ (some 39) rfl rfl Try.func19 (by kernel_rfl) rfl #[.agg #[.int .i64 t200, .slice Ao36 t201.length co36, .bool t204], .agg #[.int .i64 t186, .slice Ao22 t187.length co22, .bool t190]] rfl (by (try simp only [List.map_toArray, List.map_cons, List.map_nil]); first | done | rfl | (simp only [List.length_drop, List.length_take]; rfl)) ?_; (with_reducible refine (laws_eqChan.calls k t200 _ _ t201 t204 t186 _ _ t187 t190 false _ ?side1 ?side2 ?side3 ?side4 A37.out).mono ?_); (case side1 => refine (Kd.Q_reads' (e := 3) (base := w.heap.size) (ok := fun k_ => (((True ∧ some k_ ≠ (.slice Ao17 t182.length co17 : Value).ownBlock) ∧ some k_ ≠ (.slice Ao22 t187.length co22 : Value).ownBlock) ∧ some k_ ≠ (.slice Ao29 t195.length co29 : Value).ownBlock)) (n := t201.length) (c := co36) ?_).2.2; exact (by (with_reducible repeat (first | apply Kd.Q_alloc | apply Kd.Q_drewN | apply Kd.Q_drew)); exact (Kd.Q_mono (Kd.Q_far (p := ⟨gb207, 2, none⟩) (Kd.Q_far (p := ⟨gb207, 1, none⟩) (Kd.Q_far (p := ⟨gb207, 0, none⟩) (Kd.Q_types HO203.out BK207.out (by decide)) (fun _ hk => hk.2) (.int .i64 t200)) (fun _ hk => hk.2) (.slice Ao36 t201.length co36)) (fun _ hk => hk.2) (.bool t204)) (fun _ h_ => h_.1)))); (case side2 => exact (Kd.Q_reads' HO203.out).2.1); (case side3 => refine (Kd.R_reads' (e := 3) (base := w.heap.size) (ok := fun k_ => (((True ∧ some k_ ≠ (.slice Ao17 t182.length co17 : Value).ownBlock) ∧ some k_ ≠ (.slice Ao29 t195.length co29 : Value).ownBlock) ∧ some k_ ≠ (.slice Ao36 t201.length co36 : Value).ownBlock)) (n := t187.length) (c := co22) ?_).2.2; exact (by (with_reducible repeat (first | apply Kd.R_alloc | apply Kd.R_drewN | apply Kd.R_drew)); exact (Kd.R_mono (Kd.R_far (p := ⟨gb207, 2, none⟩) (Kd.R_far (p := ⟨gb207, 1, none⟩) (Kd.R_far (p := ⟨gb207, 0, none⟩) (Kd.R_types HO189.out BK207.out (by decide)) (fun _ hk => hk.2) (.int .i64 t200)) (fun _ hk => hk.2) (.slice Ao36 t201.length co36)) (fun _ hk => hk.2) (.bool t204)) (fun _ h_ => h_.1)))); (case side4 => exact (Kd.R_reads' HO189.out).2.1); rintro e w63 ⟨rfl, hb⟩; refine ⟨_, rfl, ?_⟩; have n0_ := Aside0.mk (Kd.R_below (by (with_reducible repeat (first | apply Kd.R_alloc | apply Kd.R_drewN | apply Kd.R_drew)); exact (Kd.R_mono (Kd.R_far (p := ⟨gb207, 2, none⟩) (Kd.R_far (p := ⟨gb207, 1, none⟩) (Kd.R_far (p := ⟨gb207, 0, none⟩) (Kd.R_types HO184.out BK207.out (by decide)) (fun _ hk => hk.2) (.int .i64 t200)) (fun _ hk => hk.2) (.slice Ao36 t201.length co36)) (fun _ hk => hk.2) (.bool t204)) (fun _ h_ => h_.1))) hb); have n1_ := Aside0.mk (Kd.R_below (by (with_reducible repeat (first | apply Kd.R_alloc | apply Kd.R_drewN | apply Kd.R_drew)); exact (Kd.R_mono (Kd.R_far (p := ⟨gb207, 2, none⟩) (Kd.R_far (p := ⟨gb207, 1, none⟩) (Kd.R_far (p := ⟨gb207, 0, none⟩) (Kd.R_types HO189.out BK207.out (by decide)) (fun _ hk => hk.2) (.int .i64 t200)) (fun _ hk => hk.2) (.slice Ao36 t201.length co36)) (fun _ hk => hk.2) (.bool t204)) (fun _ h_ => h_.1))) hb); have n2_ := Aside0.mk (Kd.R_below (by (with_reducible repeat (first | apply Kd.R_alloc | apply Kd.R_drewN | apply Kd.R_drew)); exact (Kd.R_mono (Kd.R_far (p := ⟨gb207, 2, none⟩) (Kd.R_far (p := ⟨gb207, 1, none⟩) (Kd.R_far (p := ⟨gb207, 0, none⟩) (Kd.R_types HO197.out BK207.out (by decide)) (fun _ hk => hk.2) (.int .i64 t200)) (fun _ hk => hk.2) (.slice Ao36 t201.length co36)) (fun _ hk => hk.2) (.bool t204)) (fun _ h_ => h_.1))) hb); have n3_ := Aside0.mk (Kd.Q_below (by (with_reducible repeat (first | apply Kd.Q_alloc | apply Kd.Q_drewN | apply Kd.Q_drew)); exact (Kd.Q_mono (Kd.Q_far (p := ⟨gb207, 2, none⟩) (Kd.Q_far (p := ⟨gb207, 1, none⟩) (Kd.Q_far (p := ⟨gb207, 0, none⟩) (Kd.Q_types HO203.out BK207.out (by decide)) (fun _ hk => hk.2) (.int .i64 t200)) (fun _ hk => hk.2) (.slice Ao36 t201.length co36)) (fun _ hk => hk.2) (.bool t204)) (fun _ h_ => h_.1))) hb); have n4_ := Aside0.mk (blk_below (g := gb179) (o := .cells #[.int .i64 a0_0, .slice A0_1 l0_1.length c0_1, .bool a0_2] 34 (0, 0)) (by (with_reducible repeat (first | refine blk_drewN ?_ _ | refine blk_drew ?_ | refine blk_alloc ?_ _)); refine blk_far ?_ NB179_207.out _; (with_reducible repeat (first | refine blk_drewN ?_ _ | refine blk_drew ?_ | refine blk_alloc ?_ _)); refine blk_far ?_ NB179_207.out _; (with_reducible repeat (first | refine blk_drewN ?_ _ | refine blk_drew ?_ | refine blk_alloc ?_ _)); refine blk_far ?_ NB179_207.out _; (with_reducible repeat (first | refine blk_drewN ?_ _ | refine blk_drew ?_ | refine blk_alloc ?_ _)); exact BK179.out) hb); have n5_ := Aside0.mk (blk_below (g := gb193) (o := .cells #[.int .i64 t186, .slice Ao22 t187.length co22, .bool t190] 26 (0, 0)) (by (with_reducible repeat (first | refine blk_drewN ?_ _ | refine blk_drew ?_ | refine blk_alloc ?_ _)); refine blk_far ?_ NB193_207.out _; (with_reducible repeat (first | refine blk_drewN ?_ _ | refine blk_drew ?_ | refine blk_alloc ?_ _)); refine blk_far ?_ NB193_207.out _; (with_reducible repeat (first | refine blk_drewN ?_ _ | refine blk_drew ?_ | refine blk_alloc ?_ _)); refine blk_far ?_ NB193_207.out _; (with_reducible repeat (first | refine blk_drewN ?_ _ | refine blk_drew ?_ | refine blk_alloc ?_ _)); exact BK193.out) hb); have n6_ := Aside0.mk (blk_below (g := gb199) (o := .cells #[.int .i64 t194, .slice Ao29 t195.length co29, .bool t198] 26 (0, 0)) (by (with_reducible repeat (first | refine blk_drewN ?_ _ | refine blk_drew ?_ | refine blk_alloc ?_ _)); refine blk_far ?_ NB199_207.out _; (with_reducible repeat (first | refine blk_drewN ?_ _ | refine blk_drew ?_ | refine blk_alloc ?_ _)); refine blk_far ?_ NB199_207.out _; (with_reducible repeat (first | refine blk_drewN ?_ _ | refine blk_drew ?_ | refine blk_alloc ?_ _)); refine blk_far ?_ NB199_207.out _; (with_reducible repeat (first | refine blk_drewN ?_ _ | refine blk_drew ?_ | refine blk_alloc ?_ _)); exact BK199.out) hb); have n7_ := Aside0.mk (blk_below (g := gb207) (o := .cells #[.int .i64 t200, .slice Ao36 t201.length co36, .bool t204] 26 (0, 0)) (by (with_reducible repeat (first | refine blk_drewN ?_ _ | refine blk_drew ?_ | refine blk_alloc ?_ _)); refine blk_put (cs := #[.int .i64 t200, .slice Ao36 t201.length co36, .bool false]) ?_ 2 _ rfl; (with_reducible repeat (first | refine blk_drewN ?_ _ | refine blk_drew ?_ | refine blk_alloc ?_ _)); refine blk_put (cs := #[.int .i64 t200, .slice none 0 0, .bool false]) ?_ 1 _ rfl; (with_reducible repeat (first | refine blk_drewN ?_ _ | refine blk_drew ?_ | refine blk_alloc ?_ _)); refine blk_put (cs := #[.int .i64 0, .slice none 0 0, .bool false]) ?_ 0 _ rfl; (with_reducible repeat (first | refine blk_drewN ?_ _ | refine blk_drew ?_ | refine blk_alloc ?_ _)); exact BK207.out) hb); have n8_ := Aside0.mk (below_step (by repeat (first | (with_reducible first | exact HB.out | apply below_alloc | apply pw_below_drewN | apply below_drew1 | refine below_set ?_ GE179.out | refine below_set ?_ GE193.out | refine below_set ?_ GE199.out | refine below_set ?_ GE207.out) | exact HB.out)) hb); clear HO184; clear HO189; clear HO197; clear HO203; clear BK179; clear BK193; clear BK199; clear BK207; clear HB; have HO184 := n0_; have HO189 := n1_; have HO197 := n2_; have HO203 := n3_; have BK179 := n4_; have BK193 := n5_; have BK199 := n6_; have BK207 := n7_; have HB := n8_; clear n0_ n1_ n2_ n3_ n4_ n5_ n6_ n7_ n8_; (try clear hb); (try clear hb2); (try clear hk); (try clear hi)))
        go_meet
        case rel => exact ⟨_, (true), (by first | rfl | (simp; done) | (simp [*]; done)), H', ⟨by first | omega | exact Nat.le_refl _⟩, ⟨Kd.Q_of_R (by (with_reducible repeat (first | apply Kd.R_alloc | apply Kd.R_drewN | apply Kd.R_drew)); exact Kd.R_mono HO189.out (fun _ hk => ⟨hk.1.2, hk.2⟩))⟩, ⟨Kd.Q_of_R (by (with_reducible repeat (first | apply Kd.R_alloc | apply Kd.R_drewN | apply Kd.R_drew)); exact Kd.R_mono HO197.out (fun _ hk => ⟨hk.1.2, hk.2⟩))⟩, ⟨by (with_reducible repeat (first | apply Kd.Q_alloc | apply Kd.Q_drewN | apply Kd.Q_drew)); exact Kd.Q_mono HO203.out (fun _ hk => ⟨hk.1.2, hk.2⟩)⟩, ⟨by (with_reducible repeat (first | refine blk_drewN ?_ _ | refine blk_drew ?_ | refine blk_alloc ?_ _)); exact BK179.out⟩, ⟨by (with_reducible repeat (first | refine blk_drewN ?_ _ | refine blk_drew ?_ | refine blk_alloc ?_ _)); exact BK193.out⟩, ⟨by (with_reducible repeat (first | refine blk_drewN ?_ _ | refine blk_drew ?_ | refine blk_alloc ?_ _)); exact BK199.out⟩, ⟨by (with_reducible repeat (first | refine blk_drewN ?_ _ | refine blk_drew ?_ | refine blk_alloc ?_ _)); exact BK207.out⟩, ⟨by repeat (first | (with_reducible first | exact HB.out | apply below_alloc | apply pw_below_drewN | apply below_drew1 | refine below_set ?_ GE179.out | refine below_set ?_ GE193.out | refine below_set ?_ GE199.out | refine below_set ?_ GE207.out) | exact HB.out)⟩⟩
    case rest =>
      clear HC11
      try clear c1
      try clear c2
      try clear p2
      try clear c3
      try clear c3b0
      try clear c4
      try clear c5
      try clear c6
      try clear c13
      try clear c14
      try clear c17
      try clear c18
      try clear c19
      try clear c20
      try clear c26
      try clear c27
      try clear c32
      try clear c33
      try clear c34
      try clear c38
      try clear c39
      try clear c39b0
      try clear c39b1
      try clear c40
      try clear c41
      try clear c42
      try clear c44
      try clear c45
      try clear c48
      try clear c49
      try clear c50
      try clear c52
      try clear c53
      try clear c56
      try clear c57
      try clear c58
      try clear c60
      try clear c61
      try clear hcz13_0
      try clear hcz13_1
      try clear hcz13_2
      try clear hcz15_0
      try clear hcz15_1
      try clear hcz15_2
      try clear hcz21_0
      try clear hcz21_1
      try clear hcz21_2
      try clear hcz23_0
      try clear hcz23_1
      try clear hcz23_2
      try clear hcz28_0
      try clear hcz28_1
      try clear hcz28_2
      try clear hcz35_0
      try clear hcz35_1
      try clear hcz35_2
      try clear hcz43_0
      try clear hcz43_1
      try clear hcz43_2
      try clear hcz46_0
      try clear hcz46_1
      try clear hcz46_2
      try clear hcz51_0
      try clear hcz51_1
      try clear hcz51_2
      try clear hcz54_0
      try clear hcz54_1
      try clear hcz54_2
      try clear hcz59_0
      try clear hcz59_1
      try clear hcz59_2
      try clear hcz5_0
      try clear hcz5_1
      try clear hcz5_2
      try clear hcz62_0
      try clear hcz62_1
      try clear hcz62_2
      try clear hfz13_0
      try clear hfz13_1
      try clear hfz13_2
      try clear hfz15_0
      try clear hfz15_1
      try clear hfz15_2
      try clear hfz21_0
      try clear hfz21_1
      try clear hfz21_2
      try clear hfz23_0
      try clear hfz23_1
      try clear hfz23_2
      try clear hfz28_0
      try clear hfz28_1
      try clear hfz28_2
      try clear hfz35_0
      try clear hfz35_1
      try clear hfz35_2
      try clear hfz43_0
      try clear hfz43_1
      try clear hfz43_2
      try clear hfz46_0
      try clear hfz46_1
      try clear hfz46_2
      try clear hfz51_0
      try clear hfz51_1
      try clear hfz51_2
      try clear hfz54_0
      try clear hfz54_1
      try clear hfz54_2
      try clear hfz59_0
      try clear hfz59_1
      try clear hfz59_2
      try clear hfz5_0
      try clear hfz5_1
      try clear hfz5_2
      try clear hfz62_0
      try clear hfz62_1
      try clear hfz62_2
      obtain ⟨kq, x50_10, rfl, HA, HJ10, HO_194001, HO_200001, HO_208001, BK179, BK193, BK199, BK207, HB⟩ := hcut
      cases kq with
      | zero => exact absurd HA.out (by simp [laws_FnExactChanTake.j0])
      | succ kj10 =>
        have H := HA.out
        clear HA
        simp only [laws_FnExactChanTake.j0] at H
        by_cases c64 : x50_10 = true
        · subst c64
          have H1 : (some false) = some r := by rw [if_pos rfl] at H; exact H
          clear H
          have H := H1
          clear H1
          obtain rfl := Option.some.inj H
          go_wp2
          go_ret
          exact ⟨by first | rfl | (simp [errW_none, errW_some] <;> rfl) | (simp [*, errW_none, errW_some] <;> rfl), by repeat (first | (with_reducible first | exact HB.out | apply below_alloc | apply pw_below_drewN | apply below_drew1 | refine below_set ?_ GE179.out | refine below_set ?_ GE193.out | refine below_set ?_ GE199.out | refine below_set ?_ GE207.out) | exact HB.out)⟩
        · replace c64 := Bool.eq_false_iff.mpr c64
          subst c64
          have H1 : ((laws_toChan.f kj10 a0_0 l0_1 a0_2).bind fun bt209 => ((laws_eqChan.f kj10 t194 t195 t198 bt209.1 bt209.2.1 bt209.2.2).bind fun t214 => (if t214 = true then ((laws_markChan.f kj10 t194 t195 t198 1).bind fun bt215 => (if bt215.1 < 0 then (laws_FnExactChanTake.j1 kj10 t191 t192 true a0_0 l0_1 a0_2 t186 t187 t190 t200 t201 t204) else ((laws_eqChan.f kj10 t200 t201 t204 t186 t187 t190).bind fun t217 => (if t217 = true then (if t205 = t191 then (laws_FnExactChanTake.j1 kj10 t191 t192 (t206 != t192) a0_0 l0_1 a0_2 t186 t187 t190 t200 t201 t204) else (laws_FnExactChanTake.j1 kj10 t191 t192 true a0_0 l0_1 a0_2 t186 t187 t190 t200 t201 t204)) else (laws_FnExactChanTake.j1 kj10 t191 t192 true a0_0 l0_1 a0_2 t186 t187 t190 t200 t201 t204))))) else (some false)))) = some r := by rw [if_neg (show ¬ (false = true) by decide)] at H; exact H
          clear H
          have H := H1
          clear H1
          replace H := Option.bind_eq_some_iff.mp H
          obtain ⟨⟨t209, t210, t213⟩, A650, H⟩ := H
          replace H : ((laws_eqChan.f kj10 t194 t195 t198 t209 t210 t213).bind fun t214 => (if t214 = true then ((laws_markChan.f kj10 t194 t195 t198 1).bind fun bt215 => (if bt215.1 < 0 then (laws_FnExactChanTake.j1 kj10 t191 t192 true a0_0 l0_1 a0_2 t186 t187 t190 t200 t201 t204) else ((laws_eqChan.f kj10 t200 t201 t204 t186 t187 t190).bind fun t217 => (if t217 = true then (if t205 = t191 then (laws_FnExactChanTake.j1 kj10 t191 t192 (t206 != t192) a0_0 l0_1 a0_2 t186 t187 t190 t200 t201 t204) else (laws_FnExactChanTake.j1 kj10 t191 t192 true a0_0 l0_1 a0_2 t186 t187 t190 t200 t201 t204)) else (laws_FnExactChanTake.j1 kj10 t191 t192 true a0_0 l0_1 a0_2 t186 t187 t190 t200 t201 t204))))) else (some false))) = some r := H
          have A65 := Aside0.mk A650
          clear A650
          replace H := Option.bind_eq_some_iff.mp H
          obtain ⟨t214, A660, H⟩ := H
          replace H : (if t214 = true then ((laws_markChan.f kj10 t194 t195 t198 1).bind fun bt215 => (if bt215.1 < 0 then (laws_FnExactChanTake.j1 kj10 t191 t192 true a0_0 l0_1 a0_2 t186 t187 t190 t200 t201 t204) else ((laws_eqChan.f kj10 t200 t201 t204 t186 t187 t190).bind fun t217 => (if t217 = true then (if t205 = t191 then (laws_FnExactChanTake.j1 kj10 t191 t192 (t206 != t192) a0_0 l0_1 a0_2 t186 t187 t190 t200 t201 t204) else (laws_FnExactChanTake.j1 kj10 t191 t192 true a0_0 l0_1 a0_2 t186 t187 t190 t200 t201 t204)) else (laws_FnExactChanTake.j1 kj10 t191 t192 true a0_0 l0_1 a0_2 t186 t187 t190 t200 t201 t204))))) else (some false)) = some r := H
          have A66 := Aside0.mk A660
          clear A660
          by_cases c67 : t214 = true
          · subst c67
            have H1 : ((laws_markChan.f kj10 t194 t195 t198 1).bind fun bt215 => (if bt215.1 < 0 then (laws_FnExactChanTake.j1 kj10 t191 t192 true a0_0 l0_1 a0_2 t186 t187 t190 t200 t201 t204) else ((laws_eqChan.f kj10 t200 t201 t204 t186 t187 t190).bind fun t217 => (if t217 = true then (if t205 = t191 then (laws_FnExactChanTake.j1 kj10 t191 t192 (t206 != t192) a0_0 l0_1 a0_2 t186 t187 t190 t200 t201 t204) else (laws_FnExactChanTake.j1 kj10 t191 t192 true a0_0 l0_1 a0_2 t186 t187 t190 t200 t201 t204)) else (laws_FnExactChanTake.j1 kj10 t191 t192 true a0_0 l0_1 a0_2 t186 t187 t190 t200 t201 t204))))) = some r := by rw [if_pos rfl] at H; exact H
            clear H
            have H := H1
            clear H1
            replace H := Option.bind_eq_some_iff.mp H
            obtain ⟨⟨t215, t216⟩, A680, H⟩ := H
            replace H : (if t215 < 0 then (laws_FnExactChanTake.j1 kj10 t191 t192 true a0_0 l0_1 a0_2 t186 t187 t190 t200 t201 t204) else ((laws_eqChan.f kj10 t200 t201 t204 t186 t187 t190).bind fun t217 => (if t217 = true then (if t205 = t191 then (laws_FnExactChanTake.j1 kj10 t191 t192 (t206 != t192) a0_0 l0_1 a0_2 t186 t187 t190 t200 t201 t204) else (laws_FnExactChanTake.j1 kj10 t191 t192 true a0_0 l0_1 a0_2 t186 t187 t190 t200 t201 t204)) else (laws_FnExactChanTake.j1 kj10 t191 t192 true a0_0 l0_1 a0_2 t186 t187 t190 t200 t201 t204)))) = some r := H
            have A68 := Aside0.mk A680
            clear A680
            have HC69 := Aside0.mk H
            clear H
            try go_wp2
            have n0_ := Aside0.mk (Kd.Q_drew HO_194001.out)
            have n1_ := Aside0.mk (Kd.Q_drew HO_200001.out)
            have n2_ := Aside0.mk (Kd.Q_drew HO_208001.out)
            have n3_ := Aside0.mk (blk_drew BK179.out)
            have n4_ := Aside0.mk (blk_drew BK193.out)
            have n5_ := Aside0.mk (blk_drew BK199.out)
            have n6_ := Aside0.mk (blk_drew BK207.out)
            have n7_ := Aside0.mk (below_drew1 HB.out)
            clear HO_194001
            clear HO_200001
            clear HO_208001
            clear BK179
            clear BK193
            clear BK199
            clear BK207
            clear HB
            have HO_194001 := n0_
            have HO_200001 := n1_
            have HO_208001 := n2_
            have BK179 := n3_
            have BK193 := n4_
            have BK199 := n5_
            have BK207 := n6_
            have HB := n7_
            clear n0_ n1_ n2_ n3_ n4_ n5_ n6_ n7_
            refine start_ (n := 5) (S := fun w' => w'.cell? ⟨gb199, 0, none⟩ = some (.int .i64 t194) ∧ w'.cell? ⟨gb199, 1, none⟩ = some (.slice Ao29 t195.length co29) ∧ w'.cell? ⟨gb199, 2, none⟩ = some (.bool t198) ∧ w'.cell? ⟨gb179, 0, none⟩ = some (.int .i64 a0_0) ∧ w'.cell? ⟨gb179, 1, none⟩ = some (.slice A0_1 l0_1.length c0_1) ∧ w'.cell? ⟨gb179, 2, none⟩ = some (.bool a0_2)) (ds := []) #[false, false, false, false, false] (by kernel_rfl) rfl rfl ⟨(blk_cell BK199.out 0).trans rfl, (blk_cell BK199.out 1).trans rfl, (blk_cell BK199.out 2).trans rfl, (blk_cell BK179.out 0).trans rfl, (blk_cell BK179.out 1).trans rfl, (blk_cell BK179.out 2).trans rfl⟩ (fun hHeld => ?_)
            generalize wc.drew = w70 at HO_194001 HO_200001 HO_208001 BK179 BK193 BK199 BK207 HB hHeld ⊢
            refine take_ (i := 0) (N := some 51) (v := ?_) (a' := ?_) #[true, false, false, false, false] rfl rfl (by kernel_rfl) (fun _ _ _ h => h) (Or.inl ⟨by rfl, ?_⟩) hHeld ?_ ?_
            rotate_left
            · rintro w' ⟨s0, s1, s2, s3, s4, s5⟩
              go_simp
              with_reducible rfl
            rotate_left
            · simp only [Act.put, List.setIfInBounds_toArray, List.set_cons_zero, List.set_cons_succ, i64_w, i32_w]
              rfl
            refine take_ (i := 1) (N := some 52) (v := ?_) (a' := ?_) #[true, true, false, false, false] rfl rfl (by kernel_rfl) (fun _ _ _ h => h) (Or.inl ⟨by rfl, ?_⟩) hHeld ?_ ?_
            rotate_left
            · rintro w' ⟨s0, s1, s2, s3, s4, s5⟩
              go_simp
              with_reducible rfl
            rotate_left
            · simp only [Act.put, List.setIfInBounds_toArray, List.set_cons_zero, List.set_cons_succ, i64_w, i32_w]
              rfl
            refine one_ (i := 2) (N := some 53) #[true, true, true, false, false] rfl rfl (by kernel_rfl) (by decide) (fun K hK => ?_)
            refine goes_ Try.func18 (by kernel_rfl) rfl #[.agg #[.int .i64 a0_0, .slice A0_1 l0_1.length c0_1, .bool a0_2]] (by rfl) rfl rfl (by (try simp only [List.map_toArray, List.map_cons, List.map_nil]); first | done | rfl | (simp only [List.length_drop, List.length_take]; rfl)) ?_
            with_reducible refine (laws_toChan.calls kj10 a0_0 _ _ l0_1 a0_2 t209 t210 t213 _ ?side1 ?side2 A65.out).mono ?_
            (case side1 => repeat (first | exact (Kd.C_below HR0_1.out HB.out) | (with_reducible refine Kd.C_alloc ?_ _) | (with_reducible refine Kd.C_drewN ?_ _) | (with_reducible refine Kd.C_drew ?_)))
            (case side2 => exact HC0_1.out)
            rintro e w71 ⟨v211, rfl, ho0, hb⟩
            refine ⟨_, rfl, ?_⟩
            have n0_ := Aside0.mk (Kd.Q_elder' (by (with_reducible repeat (first | apply Kd.Q_alloc | apply Kd.Q_drewN | apply Kd.Q_drew)); exact HO_194001.out) (Kd.R_base ho0) hb)
            have n1_ := Aside0.mk (Kd.Q_elder' (by (with_reducible repeat (first | apply Kd.Q_alloc | apply Kd.Q_drewN | apply Kd.Q_drew)); exact HO_200001.out) (Kd.R_base ho0) hb)
            have n2_ := Aside0.mk (Kd.Q_elder' (by (with_reducible repeat (first | apply Kd.Q_alloc | apply Kd.Q_drewN | apply Kd.Q_drew)); exact HO_208001.out) (Kd.R_base ho0) hb)
            have n3_ := Aside0.mk (Kd.R_lower (Kd.R_new' (Kd.R_new' (Kd.R_new' ho0 (Kd.Q_lt (by (with_reducible repeat (first | apply Kd.Q_alloc | apply Kd.Q_drewN | apply Kd.Q_drew)); exact HO_194001.out))) (Kd.Q_lt (by (with_reducible repeat (first | apply Kd.Q_alloc | apply Kd.Q_drewN | apply Kd.Q_drew)); exact HO_200001.out))) (Kd.Q_lt (by (with_reducible repeat (first | apply Kd.Q_alloc | apply Kd.Q_drewN | apply Kd.Q_drew)); exact HO_208001.out))) (below_size (by repeat (first | (with_reducible first | exact HB.out | apply below_alloc | apply pw_below_drewN | apply below_drew1 | refine below_set ?_ GE179.out | refine below_set ?_ GE193.out | refine below_set ?_ GE199.out | refine below_set ?_ GE207.out) | exact HB.out))))
            have n4_ := Aside0.mk (blk_below (g := gb179) (o := .cells #[.int .i64 a0_0, .slice A0_1 l0_1.length c0_1, .bool a0_2] 34 (0, 0)) (by (with_reducible repeat (first | refine blk_drewN ?_ _ | refine blk_drew ?_ | refine blk_alloc ?_ _)); exact BK179.out) hb)
            have n5_ := Aside0.mk (blk_below (g := gb193) (o := .cells #[.int .i64 t186, .slice Ao22 t187.length co22, .bool t190] 26 (0, 0)) (by (with_reducible repeat (first | refine blk_drewN ?_ _ | refine blk_drew ?_ | refine blk_alloc ?_ _)); exact BK193.out) hb)
            have n6_ := Aside0.mk (blk_below (g := gb199) (o := .cells #[.int .i64 t194, .slice Ao29 t195.length co29, .bool t198] 26 (0, 0)) (by (with_reducible repeat (first | refine blk_drewN ?_ _ | refine blk_drew ?_ | refine blk_alloc ?_ _)); exact BK199.out) hb)
            have n7_ := Aside0.mk (blk_below (g := gb207) (o := .cells #[.int .i64 t200, .slice Ao36 t201.length co36, .bool t204] 26 (0, 0)) (by (with_reducible repeat (first | refine blk_drewN ?_ _ | refine blk_drew ?_ | refine blk_alloc ?_ _)); exact BK207.out) hb)
            have n8_ := Aside0.mk (below_step (by repeat (first | (with_reducible first | exact HB.out | apply below_alloc | apply pw_below_drewN | apply below_drew1 | refine below_set ?_ GE179.out | refine below_set ?_ GE193.out | refine below_set ?_ GE199.out | refine below_set ?_ GE207.out) | exact HB.out)) hb)
            clear HO_194001
            clear HO_200001
            clear HO_208001
            clear BK179
            clear BK193
            clear BK199
            clear BK207
            clear HB
            have HO_194001 := n0_
            have HO_200001 := n1_
            have HO_208001 := n2_
            have HO212 := n3_
            have BK179 := n4_
            have BK193 := n5_
            have BK199 := n6_
            have BK207 := n7_
            have HB := n8_
            clear n0_ n1_ n2_ n3_ n4_ n5_ n6_ n7_ n8_
            (try clear hb)
            (try clear hb2)
            (try clear hk)
            (try clear hi)
            (try clear ho0)
            obtain ⟨Ao72, co72, eo72⟩ := Kd.R_slice HO212.out
            (first | subst eo72 | (injection eo72 with f1_ f2_ f3_; have f4_ := f1_.symm; have f5_ := f3_.symm; clear f1_ f2_ f3_; subst f4_; subst f5_))
            refine hK.out _ _ ⟨(blk_cell BK199.out 0).trans rfl, (blk_cell BK199.out 1).trans rfl, (blk_cell BK199.out 2).trans rfl, (blk_cell BK179.out 0).trans rfl, (blk_cell BK179.out 1).trans rfl, (blk_cell BK179.out 2).trans rfl⟩ (fun hHeld => ?_)
            clear hK K
            refine norm_ (a' := ?_) ?_ ?_
            rotate_left
            · show Act.put _ (some 53) _ = _
              simp only [Act.put, List.setIfInBounds_toArray, List.set_cons_zero, List.set_cons_succ, i64_w, i32_w]
              rfl
            refine one_ (i := 3) (N := some 54) #[true, true, true, true, false] rfl rfl (by kernel_rfl) (by decide) (fun K hK => ?_)
            refine goes_ Try.func19 (by kernel_rfl) rfl #[.agg #[.int .i64 t194, .slice Ao29 t195.length co29, .bool t198], .agg #[.int .i64 t209, .slice Ao72 t210.length co72, .bool t213]] (by rfl) rfl rfl (by (try simp only [List.map_toArray, List.map_cons, List.map_nil]); first | done | rfl | (simp only [List.length_drop, List.length_take]; rfl)) ?_
            with_reducible refine (laws_eqChan.calls kj10 t194 _ _ t195 t198 t209 _ _ t210 t213 true _ ?side1 ?side2 ?side3 ?side4 A66.out).mono ?_
            (case side1 => repeat (first | exact (Kd.Q_reads' HO_200001.out).2.2 | (with_reducible refine Kd.C_alloc ?_ _) | (with_reducible refine Kd.C_drewN ?_ _) | (with_reducible refine Kd.C_drew ?_)))
            (case side2 => exact (Kd.Q_reads' HO_200001.out).2.1)
            (case side3 => repeat (first | exact (Kd.R_reads' HO212.out).2.2 | (with_reducible refine Kd.C_alloc ?_ _) | (with_reducible refine Kd.C_drewN ?_ _) | (with_reducible refine Kd.C_drew ?_)))
            (case side4 => exact (Kd.R_reads' HO212.out).2.1)
            rintro e w73 ⟨rfl, hb⟩
            refine ⟨_, rfl, ?_⟩
            have n0_ := Aside0.mk (Kd.Q_below (by (with_reducible repeat (first | apply Kd.Q_alloc | apply Kd.Q_drewN | apply Kd.Q_drew)); exact HO_194001.out) hb)
            have n1_ := Aside0.mk (Kd.Q_below (by (with_reducible repeat (first | apply Kd.Q_alloc | apply Kd.Q_drewN | apply Kd.Q_drew)); exact HO_200001.out) hb)
            have n2_ := Aside0.mk (Kd.Q_below (by (with_reducible repeat (first | apply Kd.Q_alloc | apply Kd.Q_drewN | apply Kd.Q_drew)); exact HO_208001.out) hb)
            have n3_ := Aside0.mk (Kd.R_below (by (with_reducible repeat (first | apply Kd.R_alloc | apply Kd.R_drewN | apply Kd.R_drew)); exact HO212.out) hb)
            have n4_ := Aside0.mk (blk_below (g := gb179) (o := .cells #[.int .i64 a0_0, .slice A0_1 l0_1.length c0_1, .bool a0_2] 34 (0, 0)) (by (with_reducible repeat (first | refine blk_drewN ?_ _ | refine blk_drew ?_ | refine blk_alloc ?_ _)); exact BK179.out) hb)
            have n5_ := Aside0.mk (blk_below (g := gb193) (o := .cells #[.int .i64 t186, .slice Ao22 t187.length co22, .bool t190] 26 (0, 0)) (by (with_reducible repeat (first | refine blk_drewN ?_ _ | refine blk_drew ?_ | refine blk_alloc ?_ _)); exact BK193.out) hb)
            have n6_ := Aside0.mk (blk_below (g := gb199) (o := .cells #[.int .i64 t194, .slice Ao29 t195.length co29, .bool t198] 26 (0, 0)) (by (with_reducible repeat (first | refine blk_drewN ?_ _ | refine blk_drew ?_ | refine blk_alloc ?_ _)); exact BK199.out) hb)
            have n7_ := Aside0.mk (blk_below (g := gb207) (o := .cells #[.int .i64 t200, .slice Ao36 t201.length co36, .bool t204] 26 (0, 0)) (by (with_reducible repeat (first | refine blk_drewN ?_ _ | refine blk_drew ?_ | refine blk_alloc ?_ _)); exact BK207.out) hb)
            have n8_ := Aside0.mk (below_step (by repeat (first | (with_reducible first | exact HB.out | apply below_alloc | apply pw_below_drewN | apply below_drew1 | refine below_set ?_ GE179.out | refine below_set ?_ GE193.out | refine below_set ?_ GE199.out | refine below_set ?_ GE207.out) | exact HB.out)) hb)
            clear HO_194001
            clear HO_200001
            clear HO_208001
            clear HO212
            clear BK179
            clear BK193
            clear BK199
            clear BK207
            clear HB
            have HO_194001 := n0_
            have HO_200001 := n1_
            have HO_208001 := n2_
            have HO212 := n3_
            have BK179 := n4_
            have BK193 := n5_
            have BK199 := n6_
            have BK207 := n7_
            have HB := n8_
            clear n0_ n1_ n2_ n3_ n4_ n5_ n6_ n7_ n8_
            (try clear hb)
            (try clear hb2)
            (try clear hk)
            (try clear hi)
            refine hK.out _ _ ⟨(blk_cell BK199.out 0).trans rfl, (blk_cell BK199.out 1).trans rfl, (blk_cell BK199.out 2).trans rfl, (blk_cell BK179.out 0).trans rfl, (blk_cell BK179.out 1).trans rfl, (blk_cell BK179.out 2).trans rfl⟩ (fun hHeld => ?_)
            clear hK K
            refine norm_ (a' := ?_) ?_ ?_
            rotate_left
            · show Act.put _ (some 54) _ = _
              simp only [Act.put, List.setIfInBounds_toArray, List.set_cons_zero, List.set_cons_succ, i64_w, i32_w]
              rfl
            refine pure_ (i := 4) (N := some 55) (v := ?_) (a' := ?_) #[true, true, true, true, true] rfl rfl (by kernel_rfl) (fun _ _ _ h => h) (Or.inl ⟨by rfl, ?_⟩) ?_ ?_
            rotate_left
            · intro w'
              go_simp
              with_reducible rfl
            rotate_left
            · simp only [Act.put, List.setIfInBounds_toArray, List.set_cons_zero, List.set_cons_succ, i64_w, i32_w]
              rfl
            refine done_ (by kernel_rfl) ?_
            have hnb74 := NB199_179.out
            have hnc74 := NB179_199.out
            have hnb75 := NB199_193.out
            have hnc75 := NB193_199.out
            have hnb76 := NB199_207.out
            have hnc76 := NB207_199.out
            have hcz77_0 : w73.cell? ⟨gb199, 0, none⟩ = some (.int .i64 t194) := (blk_cell BK199.out 0).trans rfl
            have hcz77_1 : w73.cell? ⟨gb199, 1, none⟩ = some (.slice Ao29 t195.length co29) := (blk_cell BK199.out 1).trans rfl
            have hcz77_2 : w73.cell? ⟨gb199, 2, none⟩ = some (.bool t198) := (blk_cell BK199.out 2).trans rfl
            have hfz77_0 := blk_frozen BK199.out 0
            have hfz77_1 := blk_frozen BK199.out 1
            have hfz77_2 := blk_frozen BK199.out 2
            go_upto_region 14 with (first | ((with_reducible refine gate_callee (f := 20) rfl ?_); refine goesL_ (some 58) rfl rfl Try.func20 (by kernel_rfl) rfl #[.agg #[.int .i64 t194, .slice Ao29 t195.length co29, .bool t198], .int .i64 1] rfl (by (try simp only [List.map_toArray, List.map_cons, List.map_nil]); first | done | rfl | (simp only [List.length_drop, List.length_take]; rfl)) ?_; (with_reducible refine (laws_markChan.callsQ kj10 t194 (fun k_ => some k_ = (.slice Ao29 t195.length co29 : Value).ownBlock) (.slice Ao29 t195.length co29) t195 t198 1 t215 t216 w _ ?side1 ?side2 A68.out).mono ?_); (case side1 => repeat (first | (with_reducible first | exact HB.out | apply below_alloc | apply pw_below_drewN | apply below_drew1 | refine below_set ?_ GE179.out | refine below_set ?_ GE193.out | refine below_set ?_ GE199.out | refine below_set ?_ GE207.out) | exact HB.out)); (case side2 => exact Kd.Q_tight rfl HO_200001.out); rintro e w78 ⟨rfl, hy0, hb, hkp⟩; refine ⟨_, rfl, ?_⟩; have n0_ := Aside0.mk (Kd.Q_mono (ok' := fun k_ => some k_ ≠ (.slice Ao29 t195.length co29 : Value).ownBlock ∧ some k_ ≠ (.slice Ao36 t201.length co36 : Value).ownBlock ∧ some k_ ≠ (.slice Ao72 t210.length co72 : Value).ownBlock) (Kd.Q_keptB (HO_194001.out) hkp (fun k_ hk_ hs_ => (hk_.1.1) hs_)) (fun k_ hk_ => ⟨hk_.1.1.1, hk_.1.1.2, hk_.1.2⟩)); have n1_ := Aside0.mk (Queue.Q_reok rfl hy0 (fun k_ e_ => HO_200001.out.1 k_ e_)); have n2_ := Aside0.mk (Kd.Q_mono (ok' := fun k_ => some k_ ≠ (.slice Ao22 t187.length co22 : Value).ownBlock ∧ some k_ ≠ (.slice Ao29 t195.length co29 : Value).ownBlock ∧ some k_ ≠ (.slice Ao72 t210.length co72 : Value).ownBlock) (Kd.Q_keptB (HO_208001.out) hkp (fun k_ hk_ hs_ => (hk_.1.2) hs_)) (fun k_ hk_ => ⟨hk_.1.1.1, hk_.1.1.2, hk_.1.2⟩)); have n3_ := Aside0.mk (blk_kept (by (with_reducible repeat (first | refine blk_drewN ?_ _ | refine blk_drew ?_ | refine blk_alloc ?_ _)); exact BK179.out) hkp (fun hs_ => (fun e_ => (Kd.Q_ne HO_200001.out BK179.out (by decide)) e_) hs_)); have n4_ := Aside0.mk (blk_kept (by (with_reducible repeat (first | refine blk_drewN ?_ _ | refine blk_drew ?_ | refine blk_alloc ?_ _)); exact BK193.out) hkp (fun hs_ => (fun e_ => (Kd.Q_ne HO_200001.out BK193.out (by decide)) e_) hs_)); have n5_ := Aside0.mk (blk_kept (by (with_reducible repeat (first | refine blk_drewN ?_ _ | refine blk_drew ?_ | refine blk_alloc ?_ _)); exact BK199.out) hkp (fun hs_ => (fun e_ => (Kd.Q_ne HO_200001.out BK199.out (by decide)) e_) hs_)); have n6_ := Aside0.mk (blk_kept (by (with_reducible repeat (first | refine blk_drewN ?_ _ | refine blk_drew ?_ | refine blk_alloc ?_ _)); exact BK207.out) hkp (fun hs_ => (fun e_ => (Kd.Q_ne HO_200001.out BK207.out (by decide)) e_) hs_)); have n7_ := Aside0.mk (Kd.R_mono (ok' := fun k_ => some k_ ≠ (.slice Ao22 t187.length co22 : Value).ownBlock ∧ some k_ ≠ (.slice Ao29 t195.length co29 : Value).ownBlock ∧ some k_ ≠ (.slice Ao36 t201.length co36 : Value).ownBlock) (Kd.R_keptB (HO212.out) hkp (fun k_ hk_ hs_ => (hk_.1.2) hs_)) (fun k_ hk_ => ⟨hk_.1.1.1.2, hk_.1.1.2, hk_.1.2⟩)); have n8_ := Aside0.mk (hb); clear HO_194001; clear HO_200001; clear HO_208001; clear BK179; clear BK193; clear BK199; clear BK207; clear HO212; clear HB; have HO_194001 := n0_; have HO_200001 := n1_; have HO_208001 := n2_; have BK179 := n3_; have BK193 := n4_; have BK199 := n5_; have BK207 := n6_; have HO212 := n7_; have HB := n8_; clear n0_ n1_ n2_ n3_ n4_ n5_ n6_ n7_ n8_; (try clear hb); (try clear hkp); (try clear hy0)))
            (try simp only [Act.put, List.setIfInBounds_toArray, List.set_cons_zero, List.set_cons_succ])
            go_cut [76] (fun v76 wc => ∃ (kq : Nat) (x76_68 : Bool), v76 = .bool x76_68 ∧ Aside0 (laws_FnExactChanTake.j1 kq t191 t192 x76_68 a0_0 l0_1 a0_2 t186 t187 t190 t200 t201 t204 = some r) ∧ Aside0 (kq ≤ kj10) ∧ Aside0 (Kd.Q (Kd.int .i64) 3 wc w.heap.size (fun k_ => some k_ ≠ ((.slice Ao29 t195.length co29) : Value).ownBlock ∧ some k_ ≠ ((.slice Ao36 t201.length co36) : Value).ownBlock) (.slice Ao22 t187.length co22) t187) ∧ Aside0 (Kd.Q (Kd.int .i64) 3 wc w.heap.size (fun k_ => some k_ ≠ ((.slice Ao22 t187.length co22) : Value).ownBlock ∧ some k_ ≠ ((.slice Ao36 t201.length co36) : Value).ownBlock) (.slice Ao29 t195.length co29) t216) ∧ Aside0 (Kd.Q (Kd.int .i64) 3 wc w.heap.size (fun k_ => some k_ ≠ ((.slice Ao22 t187.length co22) : Value).ownBlock ∧ some k_ ≠ ((.slice Ao29 t195.length co29) : Value).ownBlock) (.slice Ao36 t201.length co36) t201) ∧ Aside0 (wc.heap[gb179]? = some (.cells #[.int .i64 a0_0, (.slice A0_1 l0_1.length c0_1), .bool a0_2] 34 (0, 0))) ∧ Aside0 (wc.heap[gb193]? = some (.cells #[.int .i64 t186, (.slice Ao22 t187.length co22), .bool t190] 26 (0, 0))) ∧ Aside0 (wc.heap[gb199]? = some (.cells #[.int .i64 t194, (.slice Ao29 t195.length co29), .bool t198] 26 (0, 0))) ∧ Aside0 (wc.heap[gb207]? = some (.cells #[.int .i64 t200, (.slice Ao36 t201.length co36), .bool t204] 26 (0, 0))) ∧ Aside0 (Below w.heap.size w wc))
            case first =>
              have H := HC69.out
              clear HC69
              by_cases c79 : t215 < 0
              · rw [if_pos c79] at H
                have c79b0 : decide (t215 < 0) = true := decide_eq_true c79
                clear c79
                (first | rw [c79b0] | (simp only [i64_w, i32_w]; rw [c79b0]) | skip)
                have H' := Aside0.mk H
                clear H
                go_wp2
                go_meet
                case rel => exact ⟨_, (true), (by first | rfl | (simp; done) | (simp [*]; done)), H', ⟨by have := HJ10.out; first | omega | exact Nat.le_refl _⟩, ⟨by (with_reducible repeat (first | apply Kd.Q_alloc | apply Kd.Q_drewN | apply Kd.Q_drew)); exact Kd.Q_mono HO_194001.out (fun _ hk => ⟨hk.1, hk.2.1⟩)⟩, ⟨by (with_reducible repeat (first | apply Kd.Q_alloc | apply Kd.Q_drewN | apply Kd.Q_drew)); exact Kd.Q_mono HO_200001.out (fun _ hk => ⟨hk.1.1, hk.1.2⟩)⟩, ⟨by (with_reducible repeat (first | apply Kd.Q_alloc | apply Kd.Q_drewN | apply Kd.Q_drew)); exact Kd.Q_mono HO_208001.out (fun _ hk => ⟨hk.1, hk.2.1⟩)⟩, ⟨by (with_reducible repeat (first | refine blk_drewN ?_ _ | refine blk_drew ?_ | refine blk_alloc ?_ _)); exact BK179.out⟩, ⟨by (with_reducible repeat (first | refine blk_drewN ?_ _ | refine blk_drew ?_ | refine blk_alloc ?_ _)); exact BK193.out⟩, ⟨by (with_reducible repeat (first | refine blk_drewN ?_ _ | refine blk_drew ?_ | refine blk_alloc ?_ _)); exact BK199.out⟩, ⟨by (with_reducible repeat (first | refine blk_drewN ?_ _ | refine blk_drew ?_ | refine blk_alloc ?_ _)); exact BK207.out⟩, ⟨by repeat (first | (with_reducible first | exact HB.out | apply below_alloc | apply pw_below_drewN | apply below_drew1 | refine below_set ?_ GE179.out | refine below_set ?_ GE193.out | refine below_set ?_ GE199.out | refine below_set ?_ GE207.out) | exact HB.out)⟩⟩
              · rw [if_neg c79] at H
                have c79b0 : decide (t215 < 0) = false := decide_eq_false c79
                clear c79
                (first | rw [c79b0] | (simp only [i64_w, i32_w]; rw [c79b0]) | skip)
                replace H := Option.bind_eq_some_iff.mp H
                obtain ⟨t217, A800, H⟩ := H
                replace H : (if t217 = true then (if t205 = t191 then (laws_FnExactChanTake.j1 kj10 t191 t192 (t206 != t192) a0_0 l0_1 a0_2 t186 t187 t190 t200 t201 t204) else (laws_FnExactChanTake.j1 kj10 t191 t192 true a0_0 l0_1 a0_2 t186 t187 t190 t200 t201 t204)) else (laws_FnExactChanTake.j1 kj10 t191 t192 true a0_0 l0_1 a0_2 t186 t187 t190 t200 t201 t204)) = some r := H
                have A80 := Aside0.mk A800
                clear A800
                by_cases c81 : t217 = true
                · subst c81
                  have H1 : (if t205 = t191 then (laws_FnExactChanTake.j1 kj10 t191 t192 (t206 != t192) a0_0 l0_1 a0_2 t186 t187 t190 t200 t201 t204) else (laws_FnExactChanTake.j1 kj10 t191 t192 true a0_0 l0_1 a0_2 t186 t187 t190 t200 t201 t204)) = some r := by rw [if_pos rfl] at H; exact H
                  clear H
                  have H := H1
                  clear H1
                  by_cases c82 : t205 = t191
                  · rw [if_pos c82] at H
                    have c82b0 : (t205 == t191) = true := beq_iff_eq.mpr c82
                    have c82b1 : (t205 != t191) = false := bne_eq_false_iff_eq.mpr c82
                    clear c82
                    have H' := Aside0.mk H
                    clear H
                    have hnb83 := NB207_179.out
                    have hnc83 := NB179_207.out
                    have hnb84 := NB207_193.out
                    have hnc84 := NB193_207.out
                    have hnb85 := NB207_199.out
                    have hnc85 := NB199_207.out
                    have hcz86_0 : w78.cell? ⟨gb207, 0, none⟩ = some (.int .i64 t200) := (blk_cell BK207.out 0).trans rfl
                    have hcz86_1 : w78.cell? ⟨gb207, 1, none⟩ = some (.slice Ao36 t201.length co36) := (blk_cell BK207.out 1).trans rfl
                    have hcz86_2 : w78.cell? ⟨gb207, 2, none⟩ = some (.bool t204) := (blk_cell BK207.out 2).trans rfl
                    have hfz86_0 := blk_frozen BK207.out 0
                    have hfz86_1 := blk_frozen BK207.out 1
                    have hfz86_2 := blk_frozen BK207.out 2
                    have hnb87 := NB193_179.out
                    have hnc87 := NB179_193.out
                    have hnb88 := NB193_199.out
                    have hnc88 := NB199_193.out
                    have hcz89_0 : w78.cell? ⟨gb193, 0, none⟩ = some (.int .i64 t186) := (blk_cell BK193.out 0).trans rfl
                    have hcz89_1 : w78.cell? ⟨gb193, 1, none⟩ = some (.slice Ao22 t187.length co22) := (blk_cell BK193.out 1).trans rfl
                    have hcz89_2 : w78.cell? ⟨gb193, 2, none⟩ = some (.bool t190) := (blk_cell BK193.out 2).trans rfl
                    have hfz89_0 := blk_frozen BK193.out 0
                    have hfz89_1 := blk_frozen BK193.out 1
                    have hfz89_2 := blk_frozen BK193.out 2
                    go_wp2_with (first | (go_at_call 19; (with_reducible refine (laws_eqChan.calls kj10 t200 _ _ t201 t204 t186 _ _ t187 t190 true _ ?side1 ?side2 ?side3 ?side4 A80.out).mono ?_); (case side1 => repeat (first | exact (Kd.Q_reads' HO_208001.out).2.2 | (with_reducible refine Kd.C_alloc ?_ _) | (with_reducible refine Kd.C_drewN ?_ _) | (with_reducible refine Kd.C_drew ?_))); (case side2 => exact (Kd.Q_reads' HO_208001.out).2.1); (case side3 => repeat (first | exact (Kd.Q_reads' HO_194001.out).2.2 | (with_reducible refine Kd.C_alloc ?_ _) | (with_reducible refine Kd.C_drewN ?_ _) | (with_reducible refine Kd.C_drew ?_))); (case side4 => exact (Kd.Q_reads' HO_194001.out).2.1); rintro e w90 ⟨rfl, hb⟩; have n0_ := Aside0.mk (Kd.Q_below (by (with_reducible repeat (first | apply Kd.Q_alloc | apply Kd.Q_drewN | apply Kd.Q_drew)); exact HO_194001.out) hb); have n1_ := Aside0.mk (Kd.Q_below (by (with_reducible repeat (first | apply Kd.Q_alloc | apply Kd.Q_drewN | apply Kd.Q_drew)); exact HO_200001.out) hb); have n2_ := Aside0.mk (Kd.Q_below (by (with_reducible repeat (first | apply Kd.Q_alloc | apply Kd.Q_drewN | apply Kd.Q_drew)); exact HO_208001.out) hb); have n3_ := Aside0.mk (Kd.R_below (by (with_reducible repeat (first | apply Kd.R_alloc | apply Kd.R_drewN | apply Kd.R_drew)); exact HO212.out) hb); have n4_ := Aside0.mk (blk_below (g := gb179) (o := .cells #[.int .i64 a0_0, .slice A0_1 l0_1.length c0_1, .bool a0_2] 34 (0, 0)) (by (with_reducible repeat (first | refine blk_drewN ?_ _ | refine blk_drew ?_ | refine blk_alloc ?_ _)); exact BK179.out) hb); have n5_ := Aside0.mk (blk_below (g := gb193) (o := .cells #[.int .i64 t186, .slice Ao22 t187.length co22, .bool t190] 26 (0, 0)) (by (with_reducible repeat (first | refine blk_drewN ?_ _ | refine blk_drew ?_ | refine blk_alloc ?_ _)); exact BK193.out) hb); have n6_ := Aside0.mk (blk_below (g := gb199) (o := .cells #[.int .i64 t194, .slice Ao29 t195.length co29, .bool t198] 26 (0, 0)) (by (with_reducible repeat (first | refine blk_drewN ?_ _ | refine blk_drew ?_ | refine blk_alloc ?_ _)); exact BK199.out) hb); have n7_ := Aside0.mk (blk_below (g := gb207) (o := .cells #[.int .i64 t200, .slice Ao36 t201.length co36, .bool t204] 26 (0, 0)) (by (with_reducible repeat (first | refine blk_drewN ?_ _ | refine blk_drew ?_ | refine blk_alloc ?_ _)); exact BK207.out) hb); have n8_ := Aside0.mk (below_step (by repeat (first | (with_reducible first | exact HB.out | apply below_alloc | apply pw_below_drewN | apply below_drew1 | refine below_set ?_ GE179.out | refine below_set ?_ GE193.out | refine below_set ?_ GE199.out | refine below_set ?_ GE207.out) | exact HB.out)) hb); clear HO_194001; clear HO_200001; clear HO_208001; clear HO212; clear BK179; clear BK193; clear BK199; clear BK207; clear HB; have HO_194001 := n0_; have HO_200001 := n1_; have HO_208001 := n2_; have HO212 := n3_; have BK179 := n4_; have BK193 := n5_; have BK199 := n6_; have BK207 := n7_; have HB := n8_; clear n0_ n1_ n2_ n3_ n4_ n5_ n6_ n7_ n8_; (try clear hb); (try clear hb2); (try clear hk); (try clear hi)))
                    go_meet
                    case rel => exact ⟨_, ((t206 != t192)), (by first | rfl | (simp; done) | (simp [*]; done)), H', ⟨by have := HJ10.out; first | omega | exact Nat.le_refl _⟩, ⟨by (with_reducible repeat (first | apply Kd.Q_alloc | apply Kd.Q_drewN | apply Kd.Q_drew)); exact Kd.Q_mono HO_194001.out (fun _ hk => ⟨hk.1, hk.2.1⟩)⟩, ⟨by (with_reducible repeat (first | apply Kd.Q_alloc | apply Kd.Q_drewN | apply Kd.Q_drew)); exact Kd.Q_mono HO_200001.out (fun _ hk => ⟨hk.1.1, hk.1.2⟩)⟩, ⟨by (with_reducible repeat (first | apply Kd.Q_alloc | apply Kd.Q_drewN | apply Kd.Q_drew)); exact Kd.Q_mono HO_208001.out (fun _ hk => ⟨hk.1, hk.2.1⟩)⟩, ⟨by (with_reducible repeat (first | refine blk_drewN ?_ _ | refine blk_drew ?_ | refine blk_alloc ?_ _)); exact BK179.out⟩, ⟨by (with_reducible repeat (first | refine blk_drewN ?_ _ | refine blk_drew ?_ | refine blk_alloc ?_ _)); exact BK193.out⟩, ⟨by (with_reducible repeat (first | refine blk_drewN ?_ _ | refine blk_drew ?_ | refine blk_alloc ?_ _)); exact BK199.out⟩, ⟨by (with_reducible repeat (first | refine blk_drewN ?_ _ | refine blk_drew ?_ | refine blk_alloc ?_ _)); exact BK207.out⟩, ⟨by repeat (first | (with_reducible first | exact HB.out | apply below_alloc | apply pw_below_drewN | apply below_drew1 | refine below_set ?_ GE179.out | refine below_set ?_ GE193.out | refine below_set ?_ GE199.out | refine below_set ?_ GE207.out) | exact HB.out)⟩⟩
                  · rw [if_neg c82] at H
                    have c82b0 : (t205 == t191) = false := beq_eq_false_iff_ne.mpr c82
                    have c82b1 : (t205 != t191) = true := bne_iff_ne.mpr c82
                    have H' := Aside0.mk H
                    clear H
                    have hnb91 := NB207_179.out
                    have hnc91 := NB179_207.out
                    have hnb92 := NB207_193.out
                    have hnc92 := NB193_207.out
                    have hnb93 := NB207_199.out
                    have hnc93 := NB199_207.out
                    have hcz94_0 : w78.cell? ⟨gb207, 0, none⟩ = some (.int .i64 t200) := (blk_cell BK207.out 0).trans rfl
                    have hcz94_1 : w78.cell? ⟨gb207, 1, none⟩ = some (.slice Ao36 t201.length co36) := (blk_cell BK207.out 1).trans rfl
                    have hcz94_2 : w78.cell? ⟨gb207, 2, none⟩ = some (.bool t204) := (blk_cell BK207.out 2).trans rfl
                    have hfz94_0 := blk_frozen BK207.out 0
                    have hfz94_1 := blk_frozen BK207.out 1
                    have hfz94_2 := blk_frozen BK207.out 2
                    have hnb95 := NB193_179.out
                    have hnc95 := NB179_193.out
                    have hnb96 := NB193_199.out
                    have hnc96 := NB199_193.out
                    have hcz97_0 : w78.cell? ⟨gb193, 0, none⟩ = some (.int .i64 t186) := (blk_cell BK193.out 0).trans rfl
                    have hcz97_1 : w78.cell? ⟨gb193, 1, none⟩ = some (.slice Ao22 t187.length co22) := (blk_cell BK193.out 1).trans rfl
                    have hcz97_2 : w78.cell? ⟨gb193, 2, none⟩ = some (.bool t190) := (blk_cell BK193.out 2).trans rfl
                    have hfz97_0 := blk_frozen BK193.out 0
                    have hfz97_1 := blk_frozen BK193.out 1
                    have hfz97_2 := blk_frozen BK193.out 2
                    go_wp2_with (first | (go_at_call 19; (with_reducible refine (laws_eqChan.calls kj10 t200 _ _ t201 t204 t186 _ _ t187 t190 true _ ?side1 ?side2 ?side3 ?side4 A80.out).mono ?_); (case side1 => repeat (first | exact (Kd.Q_reads' HO_208001.out).2.2 | (with_reducible refine Kd.C_alloc ?_ _) | (with_reducible refine Kd.C_drewN ?_ _) | (with_reducible refine Kd.C_drew ?_))); (case side2 => exact (Kd.Q_reads' HO_208001.out).2.1); (case side3 => repeat (first | exact (Kd.Q_reads' HO_194001.out).2.2 | (with_reducible refine Kd.C_alloc ?_ _) | (with_reducible refine Kd.C_drewN ?_ _) | (with_reducible refine Kd.C_drew ?_))); (case side4 => exact (Kd.Q_reads' HO_194001.out).2.1); rintro e w98 ⟨rfl, hb⟩; have n0_ := Aside0.mk (Kd.Q_below (by (with_reducible repeat (first | apply Kd.Q_alloc | apply Kd.Q_drewN | apply Kd.Q_drew)); exact HO_194001.out) hb); have n1_ := Aside0.mk (Kd.Q_below (by (with_reducible repeat (first | apply Kd.Q_alloc | apply Kd.Q_drewN | apply Kd.Q_drew)); exact HO_200001.out) hb); have n2_ := Aside0.mk (Kd.Q_below (by (with_reducible repeat (first | apply Kd.Q_alloc | apply Kd.Q_drewN | apply Kd.Q_drew)); exact HO_208001.out) hb); have n3_ := Aside0.mk (Kd.R_below (by (with_reducible repeat (first | apply Kd.R_alloc | apply Kd.R_drewN | apply Kd.R_drew)); exact HO212.out) hb); have n4_ := Aside0.mk (blk_below (g := gb179) (o := .cells #[.int .i64 a0_0, .slice A0_1 l0_1.length c0_1, .bool a0_2] 34 (0, 0)) (by (with_reducible repeat (first | refine blk_drewN ?_ _ | refine blk_drew ?_ | refine blk_alloc ?_ _)); exact BK179.out) hb); have n5_ := Aside0.mk (blk_below (g := gb193) (o := .cells #[.int .i64 t186, .slice Ao22 t187.length co22, .bool t190] 26 (0, 0)) (by (with_reducible repeat (first | refine blk_drewN ?_ _ | refine blk_drew ?_ | refine blk_alloc ?_ _)); exact BK193.out) hb); have n6_ := Aside0.mk (blk_below (g := gb199) (o := .cells #[.int .i64 t194, .slice Ao29 t195.length co29, .bool t198] 26 (0, 0)) (by (with_reducible repeat (first | refine blk_drewN ?_ _ | refine blk_drew ?_ | refine blk_alloc ?_ _)); exact BK199.out) hb); have n7_ := Aside0.mk (blk_below (g := gb207) (o := .cells #[.int .i64 t200, .slice Ao36 t201.length co36, .bool t204] 26 (0, 0)) (by (with_reducible repeat (first | refine blk_drewN ?_ _ | refine blk_drew ?_ | refine blk_alloc ?_ _)); exact BK207.out) hb); have n8_ := Aside0.mk (below_step (by repeat (first | (with_reducible first | exact HB.out | apply below_alloc | apply pw_below_drewN | apply below_drew1 | refine below_set ?_ GE179.out | refine below_set ?_ GE193.out | refine below_set ?_ GE199.out | refine below_set ?_ GE207.out) | exact HB.out)) hb); clear HO_194001; clear HO_200001; clear HO_208001; clear HO212; clear BK179; clear BK193; clear BK199; clear BK207; clear HB; have HO_194001 := n0_; have HO_200001 := n1_; have HO_208001 := n2_; have HO212 := n3_; have BK179 := n4_; have BK193 := n5_; have BK199 := n6_; have BK207 := n7_; have HB := n8_; clear n0_ n1_ n2_ n3_ n4_ n5_ n6_ n7_ n8_; (try clear hb); (try clear hb2); (try clear hk); (try clear hi)))
                    go_meet
                    case rel => exact ⟨_, (true), (by first | rfl | (simp; done) | (simp [*]; done)), H', ⟨by have := HJ10.out; first | omega | exact Nat.le_refl _⟩, ⟨by (with_reducible repeat (first | apply Kd.Q_alloc | apply Kd.Q_drewN | apply Kd.Q_drew)); exact Kd.Q_mono HO_194001.out (fun _ hk => ⟨hk.1, hk.2.1⟩)⟩, ⟨by (with_reducible repeat (first | apply Kd.Q_alloc | apply Kd.Q_drewN | apply Kd.Q_drew)); exact Kd.Q_mono HO_200001.out (fun _ hk => ⟨hk.1.1, hk.1.2⟩)⟩, ⟨by (with_reducible repeat (first | apply Kd.Q_alloc | apply Kd.Q_drewN | apply Kd.Q_drew)); exact Kd.Q_mono HO_208001.out (fun _ hk => ⟨hk.1, hk.2.1⟩)⟩, ⟨by (with_reducible repeat (first | refine blk_drewN ?_ _ | refine blk_drew ?_ | refine blk_alloc ?_ _)); exact BK179.out⟩, ⟨by (with_reducible repeat (first | refine blk_drewN ?_ _ | refine blk_drew ?_ | refine blk_alloc ?_ _)); exact BK193.out⟩, ⟨by (with_reducible repeat (first | refine blk_drewN ?_ _ | refine blk_drew ?_ | refine blk_alloc ?_ _)); exact BK199.out⟩, ⟨by (with_reducible repeat (first | refine blk_drewN ?_ _ | refine blk_drew ?_ | refine blk_alloc ?_ _)); exact BK207.out⟩, ⟨by repeat (first | (with_reducible first | exact HB.out | apply below_alloc | apply pw_below_drewN | apply below_drew1 | refine below_set ?_ GE179.out | refine below_set ?_ GE193.out | refine below_set ?_ GE199.out | refine below_set ?_ GE207.out) | exact HB.out)⟩⟩
                · replace c81 := Bool.eq_false_iff.mpr c81
                  subst c81
                  have H1 : (laws_FnExactChanTake.j1 kj10 t191 t192 true a0_0 l0_1 a0_2 t186 t187 t190 t200 t201 t204) = some r := by rw [if_neg (show ¬ (false = true) by decide)] at H; exact H
                  clear H
                  have H := H1
                  clear H1
                  have H' := Aside0.mk H
                  clear H
                  have hnb99 := NB207_179.out
                  have hnc99 := NB179_207.out
                  have hnb100 := NB207_193.out
                  have hnc100 := NB193_207.out
                  have hnb101 := NB207_199.out
                  have hnc101 := NB199_207.out
                  have hcz102_0 : w78.cell? ⟨gb207, 0, none⟩ = some (.int .i64 t200) := (blk_cell BK207.out 0).trans rfl
                  have hcz102_1 : w78.cell? ⟨gb207, 1, none⟩ = some (.slice Ao36 t201.length co36) := (blk_cell BK207.out 1).trans rfl
                  have hcz102_2 : w78.cell? ⟨gb207, 2, none⟩ = some (.bool t204) := (blk_cell BK207.out 2).trans rfl
                  have hfz102_0 := blk_frozen BK207.out 0
                  have hfz102_1 := blk_frozen BK207.out 1
                  have hfz102_2 := blk_frozen BK207.out 2
                  have hnb103 := NB193_179.out
                  have hnc103 := NB179_193.out
                  have hnb104 := NB193_199.out
                  have hnc104 := NB199_193.out
                  have hcz105_0 : w78.cell? ⟨gb193, 0, none⟩ = some (.int .i64 t186) := (blk_cell BK193.out 0).trans rfl
                  have hcz105_1 : w78.cell? ⟨gb193, 1, none⟩ = some (.slice Ao22 t187.length co22) := (blk_cell BK193.out 1).trans rfl
                  have hcz105_2 : w78.cell? ⟨gb193, 2, none⟩ = some (.bool t190) := (blk_cell BK193.out 2).trans rfl
                  have hfz105_0 := blk_frozen BK193.out 0
                  have hfz105_1 := blk_frozen BK193.out 1
                  have hfz105_2 := blk_frozen BK193.out 2
                  go_wp2_with (first | (go_at_call 19; (with_reducible refine (laws_eqChan.calls kj10 t200 _ _ t201 t204 t186 _ _ t187 t190 false _ ?side1 ?side2 ?side3 ?side4 A80.out).mono ?_); (case side1 => repeat (first | exact (Kd.Q_reads' HO_208001.out).2.2 | (with_reducible refine Kd.C_alloc ?_ _) | (with_reducible refine Kd.C_drewN ?_ _) | (with_reducible refine Kd.C_drew ?_))); (case side2 => exact (Kd.Q_reads' HO_208001.out).2.1); (case side3 => repeat (first | exact (Kd.Q_reads' HO_194001.out).2.2 | (with_reducible refine Kd.C_alloc ?_ _) | (with_reducible refine Kd.C_drewN ?_ _) | (with_reducible refine Kd.C_drew ?_))); (case side4 => exact (Kd.Q_reads' HO_194001.out).2.1); rintro e w106 ⟨rfl, hb⟩; have n0_ := Aside0.mk (Kd.Q_below (by (with_reducible repeat (first | apply Kd.Q_alloc | apply Kd.Q_drewN | apply Kd.Q_drew)); exact HO_194001.out) hb); have n1_ := Aside0.mk (Kd.Q_below (by (with_reducible repeat (first | apply Kd.Q_alloc | apply Kd.Q_drewN | apply Kd.Q_drew)); exact HO_200001.out) hb); have n2_ := Aside0.mk (Kd.Q_below (by (with_reducible repeat (first | apply Kd.Q_alloc | apply Kd.Q_drewN | apply Kd.Q_drew)); exact HO_208001.out) hb); have n3_ := Aside0.mk (Kd.R_below (by (with_reducible repeat (first | apply Kd.R_alloc | apply Kd.R_drewN | apply Kd.R_drew)); exact HO212.out) hb); have n4_ := Aside0.mk (blk_below (g := gb179) (o := .cells #[.int .i64 a0_0, .slice A0_1 l0_1.length c0_1, .bool a0_2] 34 (0, 0)) (by (with_reducible repeat (first | refine blk_drewN ?_ _ | refine blk_drew ?_ | refine blk_alloc ?_ _)); exact BK179.out) hb); have n5_ := Aside0.mk (blk_below (g := gb193) (o := .cells #[.int .i64 t186, .slice Ao22 t187.length co22, .bool t190] 26 (0, 0)) (by (with_reducible repeat (first | refine blk_drewN ?_ _ | refine blk_drew ?_ | refine blk_alloc ?_ _)); exact BK193.out) hb); have n6_ := Aside0.mk (blk_below (g := gb199) (o := .cells #[.int .i64 t194, .slice Ao29 t195.length co29, .bool t198] 26 (0, 0)) (by (with_reducible repeat (first | refine blk_drewN ?_ _ | refine blk_drew ?_ | refine blk_alloc ?_ _)); exact BK199.out) hb); have n7_ := Aside0.mk (blk_below (g := gb207) (o := .cells #[.int .i64 t200, .slice Ao36 t201.length co36, .bool t204] 26 (0, 0)) (by (with_reducible repeat (first | refine blk_drewN ?_ _ | refine blk_drew ?_ | refine blk_alloc ?_ _)); exact BK207.out) hb); have n8_ := Aside0.mk (below_step (by repeat (first | (with_reducible first | exact HB.out | apply below_alloc | apply pw_below_drewN | apply below_drew1 | refine below_set ?_ GE179.out | refine below_set ?_ GE193.out | refine below_set ?_ GE199.out | refine below_set ?_ GE207.out) | exact HB.out)) hb); clear HO_194001; clear HO_200001; clear HO_208001; clear HO212; clear BK179; clear BK193; clear BK199; clear BK207; clear HB; have HO_194001 := n0_; have HO_200001 := n1_; have HO_208001 := n2_; have HO212 := n3_; have BK179 := n4_; have BK193 := n5_; have BK199 := n6_; have BK207 := n7_; have HB := n8_; clear n0_ n1_ n2_ n3_ n4_ n5_ n6_ n7_ n8_; (try clear hb); (try clear hb2); (try clear hk); (try clear hi)))
                  go_meet
                  case rel => exact ⟨_, (true), (by first | rfl | (simp; done) | (simp [*]; done)), H', ⟨by have := HJ10.out; first | omega | exact Nat.le_refl _⟩, ⟨by (with_reducible repeat (first | apply Kd.Q_alloc | apply Kd.Q_drewN | apply Kd.Q_drew)); exact Kd.Q_mono HO_194001.out (fun _ hk => ⟨hk.1, hk.2.1⟩)⟩, ⟨by (with_reducible repeat (first | apply Kd.Q_alloc | apply Kd.Q_drewN | apply Kd.Q_drew)); exact Kd.Q_mono HO_200001.out (fun _ hk => ⟨hk.1.1, hk.1.2⟩)⟩, ⟨by (with_reducible repeat (first | apply Kd.Q_alloc | apply Kd.Q_drewN | apply Kd.Q_drew)); exact Kd.Q_mono HO_208001.out (fun _ hk => ⟨hk.1, hk.2.1⟩)⟩, ⟨by (with_reducible repeat (first | refine blk_drewN ?_ _ | refine blk_drew ?_ | refine blk_alloc ?_ _)); exact BK179.out⟩, ⟨by (with_reducible repeat (first | refine blk_drewN ?_ _ | refine blk_drew ?_ | refine blk_alloc ?_ _)); exact BK193.out⟩, ⟨by (with_reducible repeat (first | refine blk_drewN ?_ _ | refine blk_drew ?_ | refine blk_alloc ?_ _)); exact BK199.out⟩, ⟨by (with_reducible repeat (first | refine blk_drewN ?_ _ | refine blk_drew ?_ | refine blk_alloc ?_ _)); exact BK207.out⟩, ⟨by repeat (first | (with_reducible first | exact HB.out | apply below_alloc | apply pw_below_drewN | apply below_drew1 | refine below_set ?_ GE179.out | refine below_set ?_ GE193.out | refine below_set ?_ GE199.out | refine below_set ?_ GE207.out) | exact HB.out)⟩⟩
            case rest =>
              clear HC69
              try clear c1
              try clear c2
              try clear p2
              try clear c3
              try clear c3b0
              try clear c4
              try clear c5
              try clear c6
              try clear c7
              try clear c8
              try clear c9
              try clear c10
              try clear c13
              try clear c14
              try clear c17
              try clear c18
              try clear c19
              try clear c20
              try clear c26
              try clear c27
              try clear c32
              try clear c33
              try clear c34
              try clear c38
              try clear c39
              try clear c39b0
              try clear c39b1
              try clear c40
              try clear c41
              try clear c42
              try clear c44
              try clear c45
              try clear c48
              try clear c49
              try clear c50
              try clear c52
              try clear c53
              try clear c56
              try clear c57
              try clear c58
              try clear c60
              try clear c61
              try clear c64
              try clear c67
              try clear c74
              try clear c75
              try clear c76
              try clear c79
              try clear c79b0
              try clear c81
              try clear c82
              try clear c82b0
              try clear c82b1
              try clear c83
              try clear c84
              try clear c85
              try clear c87
              try clear c88
              try clear c91
              try clear c92
              try clear c93
              try clear c95
              try clear c96
              try clear c99
              try clear c100
              try clear c101
              try clear c103
              try clear c104
              try clear hcz102_0
              try clear hcz102_1
              try clear hcz102_2
              try clear hcz105_0
              try clear hcz105_1
              try clear hcz105_2
              try clear hcz13_0
              try clear hcz13_1
              try clear hcz13_2
              try clear hcz15_0
              try clear hcz15_1
              try clear hcz15_2
              try clear hcz21_0
              try clear hcz21_1
              try clear hcz21_2
              try clear hcz23_0
              try clear hcz23_1
              try clear hcz23_2
              try clear hcz28_0
              try clear hcz28_1
              try clear hcz28_2
              try clear hcz35_0
              try clear hcz35_1
              try clear hcz35_2
              try clear hcz43_0
              try clear hcz43_1
              try clear hcz43_2
              try clear hcz46_0
              try clear hcz46_1
              try clear hcz46_2
              try clear hcz51_0
              try clear hcz51_1
              try clear hcz51_2
              try clear hcz54_0
              try clear hcz54_1
              try clear hcz54_2
              try clear hcz59_0
              try clear hcz59_1
              try clear hcz59_2
              try clear hcz5_0
              try clear hcz5_1
              try clear hcz5_2
              try clear hcz62_0
              try clear hcz62_1
              try clear hcz62_2
              try clear hcz77_0
              try clear hcz77_1
              try clear hcz77_2
              try clear hcz86_0
              try clear hcz86_1
              try clear hcz86_2
              try clear hcz89_0
              try clear hcz89_1
              try clear hcz89_2
              try clear hcz94_0
              try clear hcz94_1
              try clear hcz94_2
              try clear hcz97_0
              try clear hcz97_1
              try clear hcz97_2
              try clear hfz102_0
              try clear hfz102_1
              try clear hfz102_2
              try clear hfz105_0
              try clear hfz105_1
              try clear hfz105_2
              try clear hfz13_0
              try clear hfz13_1
              try clear hfz13_2
              try clear hfz15_0
              try clear hfz15_1
              try clear hfz15_2
              try clear hfz21_0
              try clear hfz21_1
              try clear hfz21_2
              try clear hfz23_0
              try clear hfz23_1
              try clear hfz23_2
              try clear hfz28_0
              try clear hfz28_1
              try clear hfz28_2
              try clear hfz35_0
              try clear hfz35_1
              try clear hfz35_2
              try clear hfz43_0
              try clear hfz43_1
              try clear hfz43_2
              try clear hfz46_0
              try clear hfz46_1
              try clear hfz46_2
              try clear hfz51_0
              try clear hfz51_1
              try clear hfz51_2
              try clear hfz54_0
              try clear hfz54_1
              try clear hfz54_2
              try clear hfz59_0
              try clear hfz59_1
              try clear hfz59_2
              try clear hfz5_0
              try clear hfz5_1
              try clear hfz5_2
              try clear hfz62_0
              try clear hfz62_1
              try clear hfz62_2
              try clear hfz77_0
              try clear hfz77_1
              try clear hfz77_2
              try clear hfz86_0
              try clear hfz86_1
              try clear hfz86_2
              try clear hfz89_0
              try clear hfz89_1
              try clear hfz89_2
              try clear hfz94_0
              try clear hfz94_1
              try clear hfz94_2
              try clear hfz97_0
              try clear hfz97_1
              try clear hfz97_2
              try clear p2
              obtain ⟨kq, x76_68, rfl, HA, HJ68, HO_194001, HO_200001, HO_208001, BK179, BK193, BK199, BK207, HB⟩ := hcut
              have hl200001_68 := (Kd.Q_reads' HO_200001.out).1
              rw [hl200001_68] at HO_200001
              (try simp only [hl200001_68])
              (try simp only [hl200001_68] at BK179)
              (try simp only [hl200001_68] at BK193)
              (try simp only [hl200001_68] at BK199)
              (try simp only [hl200001_68] at BK207)
              (try simp only [hl200001_68] at HO_194001)
              (try simp only [hl200001_68] at HO_208001)
              cases kq with
              | zero => exact absurd HA.out (by simp [laws_FnExactChanTake.j1])
              | succ kj68 =>
                have H := HA.out
                clear HA
                simp only [laws_FnExactChanTake.j1] at H
                by_cases c107 : x76_68 = true
                · subst c107
                  have H1 : (some false) = some r := by rw [if_pos rfl] at H; exact H
                  clear H
                  have H := H1
                  clear H1
                  obtain rfl := Option.some.inj H
                  go_wp2
                  go_ret
                  exact ⟨by first | rfl | (simp [errW_none, errW_some] <;> rfl) | (simp [*, errW_none, errW_some] <;> rfl), by repeat (first | (with_reducible first | exact HB.out | apply below_alloc | apply pw_below_drewN | apply below_drew1 | refine below_set ?_ GE179.out | refine below_set ?_ GE193.out | refine below_set ?_ GE199.out | refine below_set ?_ GE207.out) | exact HB.out)⟩
                · replace c107 := Bool.eq_false_iff.mpr c107
                  subst c107
                  have H1 : ((laws_markChan.f kj68 t200 t201 t204 1).bind fun bt218 => ((laws_heldChan.f kj68 t200 bt218.2 t204 1).bind fun t220 => (if t220 < 0 then (some false) else (if t220 = bt218.1 then ((laws_toChan.f kj68 a0_0 l0_1 a0_2).bind fun bt221 => ((impl_ChanTake.f bt221.1 bt221.2.1 bt221.2.2).bind fun bt226 => ((laws_eqChan.f kj68 bt226.1 bt226.2.1 bt226.2.2.1 t186 t187 t190).bind fun t234 => (if t234 = true then (if bt226.2.2.2.1 = t191 then (laws_FnExactChanTake.j2 kj68 bt218.1 (bt226.2.2.2.2 != t192) t200 bt218.2 t204) else (laws_FnExactChanTake.j2 kj68 bt218.1 true t200 bt218.2 t204)) else (laws_FnExactChanTake.j2 kj68 bt218.1 true t200 bt218.2 t204))))) else (some false))))) = some r := by rw [if_neg (show ¬ (false = true) by decide)] at H; exact H
                  clear H
                  have H := H1
                  clear H1
                  replace H := Option.bind_eq_some_iff.mp H
                  obtain ⟨⟨t218, t219⟩, A1080, H⟩ := H
                  replace H : ((laws_heldChan.f kj68 t200 t219 t204 1).bind fun t220 => (if t220 < 0 then (some false) else (if t220 = t218 then ((laws_toChan.f kj68 a0_0 l0_1 a0_2).bind fun bt221 => ((impl_ChanTake.f bt221.1 bt221.2.1 bt221.2.2).bind fun bt226 => ((laws_eqChan.f kj68 bt226.1 bt226.2.1 bt226.2.2.1 t186 t187 t190).bind fun t234 => (if t234 = true then (if bt226.2.2.2.1 = t191 then (laws_FnExactChanTake.j2 kj68 t218 (bt226.2.2.2.2 != t192) t200 t219 t204) else (laws_FnExactChanTake.j2 kj68 t218 true t200 t219 t204)) else (laws_FnExactChanTake.j2 kj68 t218 true t200 t219 t204))))) else (some false)))) = some r := H
                  have A108 := Aside0.mk A1080
                  clear A1080
                  replace H := Option.bind_eq_some_iff.mp H
                  obtain ⟨t220, A1090, H⟩ := H
                  replace H : (if t220 < 0 then (some false) else (if t220 = t218 then ((laws_toChan.f kj68 a0_0 l0_1 a0_2).bind fun bt221 => ((impl_ChanTake.f bt221.1 bt221.2.1 bt221.2.2).bind fun bt226 => ((laws_eqChan.f kj68 bt226.1 bt226.2.1 bt226.2.2.1 t186 t187 t190).bind fun t234 => (if t234 = true then (if bt226.2.2.2.1 = t191 then (laws_FnExactChanTake.j2 kj68 t218 (bt226.2.2.2.2 != t192) t200 t219 t204) else (laws_FnExactChanTake.j2 kj68 t218 true t200 t219 t204)) else (laws_FnExactChanTake.j2 kj68 t218 true t200 t219 t204))))) else (some false))) = some r := H
                  have A109 := Aside0.mk A1090
                  clear A1090
                  by_cases c110 : t220 < 0
                  · rw [if_pos c110] at H
                    have c110b0 : decide (t220 < 0) = true := decide_eq_true c110
                    clear c110
                    obtain rfl := Option.some.inj H
                    have hnb111 := NB207_179.out
                    have hnc111 := NB179_207.out
                    have hnb112 := NB207_193.out
                    have hnc112 := NB193_207.out
                    have hnb113 := NB207_199.out
                    have hnc113 := NB199_207.out
                    have hcz114_0 : wc.cell? ⟨gb207, 0, none⟩ = some (.int .i64 t200) := (blk_cell BK207.out 0).trans rfl
                    have hcz114_1 : wc.cell? ⟨gb207, 1, none⟩ = some (.slice Ao36 t201.length co36) := (blk_cell BK207.out 1).trans rfl
                    have hcz114_2 : wc.cell? ⟨gb207, 2, none⟩ = some (.bool t204) := (blk_cell BK207.out 2).trans rfl
                    have hfz114_0 := blk_frozen BK207.out 0
                    have hfz114_1 := blk_frozen BK207.out 1
                    have hfz114_2 := blk_frozen BK207.out 2
                    go_wp2_with (first | ((with_reducible refine gate_callee (f := 20) rfl ?_); refine goesL_ (some 79) rfl rfl Try.func20 (by kernel_rfl) rfl #[.agg #[.int .i64 t200, .slice Ao36 t201.length co36, .bool t204], .int .i64 1] rfl (by (try simp only [List.map_toArray, List.map_cons, List.map_nil]); first | done | rfl | (simp only [List.length_drop, List.length_take]; rfl)) ?_; (with_reducible refine (laws_markChan.callsQ kj68 t200 (fun k_ => some k_ = (.slice Ao36 t201.length co36 : Value).ownBlock) (.slice Ao36 t201.length co36) t201 t204 1 t218 t219 w _ ?side1 ?side2 A108.out).mono ?_); (case side1 => repeat (first | (with_reducible first | exact HB.out | apply below_alloc | apply pw_below_drewN | apply below_drew1 | refine below_set ?_ GE179.out | refine below_set ?_ GE193.out | refine below_set ?_ GE199.out | refine below_set ?_ GE207.out) | exact HB.out)); (case side2 => exact Kd.Q_tight rfl HO_208001.out); rintro e w115 ⟨rfl, hy0, hb, hkp⟩; refine ⟨_, rfl, ?_⟩; have n0_ := Aside0.mk (Kd.Q_mono (ok' := fun k_ => some k_ ≠ (.slice Ao29 t216.length co29 : Value).ownBlock ∧ some k_ ≠ (.slice Ao36 t201.length co36 : Value).ownBlock) (Kd.Q_keptB (HO_194001.out) hkp (fun k_ hk_ hs_ => (hk_.2) hs_)) (fun k_ hk_ => ⟨hk_.1.1, hk_.1.2⟩)); have n1_ := Aside0.mk (Kd.Q_mono (ok' := fun k_ => some k_ ≠ (.slice Ao22 t187.length co22 : Value).ownBlock ∧ some k_ ≠ (.slice Ao36 t201.length co36 : Value).ownBlock) (Kd.Q_keptB (HO_200001.out) hkp (fun k_ hk_ hs_ => (hk_.2) hs_)) (fun k_ hk_ => ⟨hk_.1.1, hk_.1.2⟩)); have n2_ := Aside0.mk (Queue.Q_reok rfl hy0 (fun k_ e_ => HO_208001.out.1 k_ e_)); have n3_ := Aside0.mk (blk_kept (by (with_reducible repeat (first | refine blk_drewN ?_ _ | refine blk_drew ?_ | refine blk_alloc ?_ _)); exact BK179.out) hkp (fun hs_ => (fun e_ => (Kd.Q_ne HO_208001.out BK179.out (by decide)) e_) hs_)); have n4_ := Aside0.mk (blk_kept (by (with_reducible repeat (first | refine blk_drewN ?_ _ | refine blk_drew ?_ | refine blk_alloc ?_ _)); exact BK193.out) hkp (fun hs_ => (fun e_ => (Kd.Q_ne HO_208001.out BK193.out (by decide)) e_) hs_)); have n5_ := Aside0.mk (blk_kept (by (with_reducible repeat (first | refine blk_drewN ?_ _ | refine blk_drew ?_ | refine blk_alloc ?_ _)); exact BK199.out) hkp (fun hs_ => (fun e_ => (Kd.Q_ne HO_208001.out BK199.out (by decide)) e_) hs_)); have n6_ := Aside0.mk (blk_kept (by (with_reducible repeat (first | refine blk_drewN ?_ _ | refine blk_drew ?_ | refine blk_alloc ?_ _)); exact BK207.out) hkp (fun hs_ => (fun e_ => (Kd.Q_ne HO_208001.out BK207.out (by decide)) e_) hs_)); have n7_ := Aside0.mk (hb); clear HO_194001; clear HO_200001; clear HO_208001; clear BK179; clear BK193; clear BK199; clear BK207; clear HB; have HO_194001 := n0_; have HO_200001 := n1_; have HO_208001 := n2_; have BK179 := n3_; have BK193 := n4_; have BK199 := n5_; have BK207 := n6_; have HB := n7_; clear n0_ n1_ n2_ n3_ n4_ n5_ n6_ n7_; (try clear hb); (try clear hkp); (try clear hy0); have hcz116_0 : w115.cell? ⟨gb207, 0, none⟩ = some (.int .i64 t200) := (blk_cell BK207.out 0).trans rfl; have hcz116_1 : w115.cell? ⟨gb207, 1, none⟩ = some (.slice Ao36 t201.length co36) := (blk_cell BK207.out 1).trans rfl; have hcz116_2 : w115.cell? ⟨gb207, 2, none⟩ = some (.bool t204) := (blk_cell BK207.out 2).trans rfl; have hfz116_0 := blk_frozen BK207.out 0; have hfz116_1 := blk_frozen BK207.out 1; have hfz116_2 := blk_frozen BK207.out 2) | ((with_reducible refine gate_callee (f := 21) rfl ?_); refine goesL_ (some 82) rfl rfl Try.func21 (by kernel_rfl) rfl #[.agg #[.int .i64 t200, .slice Ao36 t219.length co36, .bool t204], .int .i64 1] rfl (by (try simp only [List.map_toArray, List.map_cons, List.map_nil]); first | done | (rw [show t219.length = t201.length from (Kd.Q_reads' HO_208001.out).1.symm] <;> rfl) | rfl | (simp only [List.length_drop, List.length_take]; rfl)) ?_; (with_reducible refine (laws_heldChan.calls kj68 t200 _ _ t219 t204 1 t220 _ ?side1 ?side2 A109.out).mono ?_); (case side1 => repeat (first | exact (Kd.Q_reads' HO_208001.out).2.2 | (with_reducible refine Kd.C_alloc ?_ _) | (with_reducible refine Kd.C_drewN ?_ _) | (with_reducible refine Kd.C_drew ?_))); (case side2 => rw [show t219.length = t201.length from (Kd.Q_reads' HO_208001.out).1.symm]; exact (Kd.Q_reads' HO_208001.out).2.1); rintro e w117 ⟨rfl, hb⟩; refine ⟨_, rfl, ?_⟩; have n0_ := Aside0.mk (Kd.Q_below (by (with_reducible repeat (first | apply Kd.Q_alloc | apply Kd.Q_drewN | apply Kd.Q_drew)); exact HO_194001.out) hb); have n1_ := Aside0.mk (Kd.Q_below (by (with_reducible repeat (first | apply Kd.Q_alloc | apply Kd.Q_drewN | apply Kd.Q_drew)); exact HO_200001.out) hb); have n2_ := Aside0.mk (Kd.Q_below (by (with_reducible repeat (first | apply Kd.Q_alloc | apply Kd.Q_drewN | apply Kd.Q_drew)); exact HO_208001.out) hb); have n3_ := Aside0.mk (blk_below (g := gb179) (o := .cells #[.int .i64 a0_0, .slice A0_1 l0_1.length c0_1, .bool a0_2] 34 (0, 0)) (by (with_reducible repeat (first | refine blk_drewN ?_ _ | refine blk_drew ?_ | refine blk_alloc ?_ _)); exact BK179.out) hb); have n4_ := Aside0.mk (blk_below (g := gb193) (o := .cells #[.int .i64 t186, .slice Ao22 t187.length co22, .bool t190] 26 (0, 0)) (by (with_reducible repeat (first | refine blk_drewN ?_ _ | refine blk_drew ?_ | refine blk_alloc ?_ _)); exact BK193.out) hb); have n5_ := Aside0.mk (blk_below (g := gb199) (o := .cells #[.int .i64 t194, .slice Ao29 t216.length co29, .bool t198] 26 (0, 0)) (by (with_reducible repeat (first | refine blk_drewN ?_ _ | refine blk_drew ?_ | refine blk_alloc ?_ _)); exact BK199.out) hb); have n6_ := Aside0.mk (blk_below (g := gb207) (o := .cells #[.int .i64 t200, .slice Ao36 t201.length co36, .bool t204] 26 (0, 0)) (by (with_reducible repeat (first | refine blk_drewN ?_ _ | refine blk_drew ?_ | refine blk_alloc ?_ _)); exact BK207.out) hb); have n7_ := Aside0.mk (below_step (by repeat (first | (with_reducible first | exact HB.out | apply below_alloc | apply pw_below_drewN | apply below_drew1 | refine below_set ?_ GE179.out | refine below_set ?_ GE193.out | refine below_set ?_ GE199.out | refine below_set ?_ GE207.out) | exact HB.out)) hb); clear HO_194001; clear HO_200001; clear HO_208001; clear BK179; clear BK193; clear BK199; clear BK207; clear HB; have HO_194001 := n0_; have HO_200001 := n1_; have HO_208001 := n2_; have BK179 := n3_; have BK193 := n4_; have BK199 := n5_; have BK207 := n6_; have HB := n7_; clear n0_ n1_ n2_ n3_ n4_ n5_ n6_ n7_; (try clear hb); (try clear hb2); (try clear hk); (try clear hi)))
                    go_ret
                    exact ⟨by first | rfl | (simp [errW_none, errW_some] <;> rfl) | (simp [*, errW_none, errW_some] <;> rfl), by repeat (first | (with_reducible first | exact HB.out | apply below_alloc | apply pw_below_drewN | apply below_drew1 | refine below_set ?_ GE179.out | refine below_set ?_ GE193.out | refine below_set ?_ GE199.out | refine below_set ?_ GE207.out) | exact HB.out)⟩
                  · rw [if_neg c110] at H
                    have c110b0 : decide (t220 < 0) = false := decide_eq_false c110
                    clear c110
                    by_cases c118 : t220 = t218
                    · rw [if_pos c118] at H
                      have c118b0 : (t220 == t218) = true := beq_iff_eq.mpr c118
                      have c118b1 : (t220 != t218) = false := bne_eq_false_iff_eq.mpr c118
                      clear c118
                      replace H := Option.bind_eq_some_iff.mp H
                      obtain ⟨⟨t221, t222, t225⟩, A1190, H⟩ := H
                      replace H : ((impl_ChanTake.f t221 t222 t225).bind fun bt226 => ((laws_eqChan.f kj68 bt226.1 bt226.2.1 bt226.2.2.1 t186 t187 t190).bind fun t234 => (if t234 = true then (if bt226.2.2.2.1 = t191 then (laws_FnExactChanTake.j2 kj68 t218 (bt226.2.2.2.2 != t192) t200 t219 t204) else (laws_FnExactChanTake.j2 kj68 t218 true t200 t219 t204)) else (laws_FnExactChanTake.j2 kj68 t218 true t200 t219 t204)))) = some r := H
                      have A119 := Aside0.mk A1190
                      clear A1190
                      replace H := Option.bind_eq_some_iff.mp H
                      obtain ⟨⟨t226, t227, t230, t231, t232⟩, A1200, H⟩ := H
                      replace H : ((laws_eqChan.f kj68 t226 t227 t230 t186 t187 t190).bind fun t234 => (if t234 = true then (if t231 = t191 then (laws_FnExactChanTake.j2 kj68 t218 (t232 != t192) t200 t219 t204) else (laws_FnExactChanTake.j2 kj68 t218 true t200 t219 t204)) else (laws_FnExactChanTake.j2 kj68 t218 true t200 t219 t204))) = some r := H
                      have A120 := Aside0.mk A1200
                      clear A1200
                      have HC121 := Aside0.mk H
                      clear H
                      have hnb122 := NB207_179.out
                      have hnc122 := NB179_207.out
                      have hnb123 := NB207_193.out
                      have hnc123 := NB193_207.out
                      have hnb124 := NB207_199.out
                      have hnc124 := NB199_207.out
                      have hcz125_0 : wc.cell? ⟨gb207, 0, none⟩ = some (.int .i64 t200) := (blk_cell BK207.out 0).trans rfl
                      have hcz125_1 : wc.cell? ⟨gb207, 1, none⟩ = some (.slice Ao36 t201.length co36) := (blk_cell BK207.out 1).trans rfl
                      have hcz125_2 : wc.cell? ⟨gb207, 2, none⟩ = some (.bool t204) := (blk_cell BK207.out 2).trans rfl
                      have hfz125_0 := blk_frozen BK207.out 0
                      have hfz125_1 := blk_frozen BK207.out 1
                      have hfz125_2 := blk_frozen BK207.out 2
                      go_upto_region 25 with (first | ((with_reducible refine gate_callee (f := 20) rfl ?_); refine goesL_ (some 79) rfl rfl Try.func20 (by kernel_rfl) rfl #[.agg #[.int .i64 t200, .slice Ao36 t201.length co36, .bool t204], .int .i64 1] rfl (by (try simp only [List.map_toArray, List.map_cons, List.map_nil]); first | done | rfl | (simp only [List.length_drop, List.length_take]; rfl)) ?_; (with_reducible refine (laws_markChan.callsQ kj68 t200 (fun k_ => some k_ = (.slice Ao36 t201.length co36 : Value).ownBlock) (.slice Ao36 t201.length co36) t201 t204 1 t218 t219 w _ ?side1 ?side2 A108.out).mono ?_); (case side1 => repeat (first | (with_reducible first | exact HB.out | apply below_alloc | apply pw_below_drewN | apply below_drew1 | refine below_set ?_ GE179.out | refine below_set ?_ GE193.out | refine below_set ?_ GE199.out | refine below_set ?_ GE207.out) | exact HB.out)); (case side2 => exact Kd.Q_tight rfl HO_208001.out); rintro e w126 ⟨rfl, hy0, hb, hkp⟩; refine ⟨_, rfl, ?_⟩; have n0_ := Aside0.mk (Kd.Q_mono (ok' := fun k_ => some k_ ≠ (.slice Ao29 t216.length co29 : Value).ownBlock ∧ some k_ ≠ (.slice Ao36 t201.length co36 : Value).ownBlock) (Kd.Q_keptB (HO_194001.out) hkp (fun k_ hk_ hs_ => (hk_.2) hs_)) (fun k_ hk_ => ⟨hk_.1.1, hk_.1.2⟩)); have n1_ := Aside0.mk (Kd.Q_mono (ok' := fun k_ => some k_ ≠ (.slice Ao22 t187.length co22 : Value).ownBlock ∧ some k_ ≠ (.slice Ao36 t201.length co36 : Value).ownBlock) (Kd.Q_keptB (HO_200001.out) hkp (fun k_ hk_ hs_ => (hk_.2) hs_)) (fun k_ hk_ => ⟨hk_.1.1, hk_.1.2⟩)); have n2_ := Aside0.mk (Queue.Q_reok rfl hy0 (fun k_ e_ => HO_208001.out.1 k_ e_)); have n3_ := Aside0.mk (blk_kept (by (with_reducible repeat (first | refine blk_drewN ?_ _ | refine blk_drew ?_ | refine blk_alloc ?_ _)); exact BK179.out) hkp (fun hs_ => (fun e_ => (Kd.Q_ne HO_208001.out BK179.out (by decide)) e_) hs_)); have n4_ := Aside0.mk (blk_kept (by (with_reducible repeat (first | refine blk_drewN ?_ _ | refine blk_drew ?_ | refine blk_alloc ?_ _)); exact BK193.out) hkp (fun hs_ => (fun e_ => (Kd.Q_ne HO_208001.out BK193.out (by decide)) e_) hs_)); have n5_ := Aside0.mk (blk_kept (by (with_reducible repeat (first | refine blk_drewN ?_ _ | refine blk_drew ?_ | refine blk_alloc ?_ _)); exact BK199.out) hkp (fun hs_ => (fun e_ => (Kd.Q_ne HO_208001.out BK199.out (by decide)) e_) hs_)); have n6_ := Aside0.mk (blk_kept (by (with_reducible repeat (first | refine blk_drewN ?_ _ | refine blk_drew ?_ | refine blk_alloc ?_ _)); exact BK207.out) hkp (fun hs_ => (fun e_ => (Kd.Q_ne HO_208001.out BK207.out (by decide)) e_) hs_)); have n7_ := Aside0.mk (hb); clear HO_194001; clear HO_200001; clear HO_208001; clear BK179; clear BK193; clear BK199; clear BK207; clear HB; have HO_194001 := n0_; have HO_200001 := n1_; have HO_208001 := n2_; have BK179 := n3_; have BK193 := n4_; have BK199 := n5_; have BK207 := n6_; have HB := n7_; clear n0_ n1_ n2_ n3_ n4_ n5_ n6_ n7_; (try clear hb); (try clear hkp); (try clear hy0); have hcz127_0 : w126.cell? ⟨gb207, 0, none⟩ = some (.int .i64 t200) := (blk_cell BK207.out 0).trans rfl; have hcz127_1 : w126.cell? ⟨gb207, 1, none⟩ = some (.slice Ao36 t201.length co36) := (blk_cell BK207.out 1).trans rfl; have hcz127_2 : w126.cell? ⟨gb207, 2, none⟩ = some (.bool t204) := (blk_cell BK207.out 2).trans rfl; have hfz127_0 := blk_frozen BK207.out 0; have hfz127_1 := blk_frozen BK207.out 1; have hfz127_2 := blk_frozen BK207.out 2) | ((with_reducible refine gate_callee (f := 21) rfl ?_); refine goesL_ (some 82) rfl rfl Try.func21 (by kernel_rfl) rfl #[.agg #[.int .i64 t200, .slice Ao36 t219.length co36, .bool t204], .int .i64 1] rfl (by (try simp only [List.map_toArray, List.map_cons, List.map_nil]); first | done | (rw [show t219.length = t201.length from (Kd.Q_reads' HO_208001.out).1.symm] <;> rfl) | rfl | (simp only [List.length_drop, List.length_take]; rfl)) ?_; (with_reducible refine (laws_heldChan.calls kj68 t200 _ _ t219 t204 1 t220 _ ?side1 ?side2 A109.out).mono ?_); (case side1 => repeat (first | exact (Kd.Q_reads' HO_208001.out).2.2 | (with_reducible refine Kd.C_alloc ?_ _) | (with_reducible refine Kd.C_drewN ?_ _) | (with_reducible refine Kd.C_drew ?_))); (case side2 => rw [show t219.length = t201.length from (Kd.Q_reads' HO_208001.out).1.symm]; exact (Kd.Q_reads' HO_208001.out).2.1); rintro e w128 ⟨rfl, hb⟩; refine ⟨_, rfl, ?_⟩; have n0_ := Aside0.mk (Kd.Q_below (by (with_reducible repeat (first | apply Kd.Q_alloc | apply Kd.Q_drewN | apply Kd.Q_drew)); exact HO_194001.out) hb); have n1_ := Aside0.mk (Kd.Q_below (by (with_reducible repeat (first | apply Kd.Q_alloc | apply Kd.Q_drewN | apply Kd.Q_drew)); exact HO_200001.out) hb); have n2_ := Aside0.mk (Kd.Q_below (by (with_reducible repeat (first | apply Kd.Q_alloc | apply Kd.Q_drewN | apply Kd.Q_drew)); exact HO_208001.out) hb); have n3_ := Aside0.mk (blk_below (g := gb179) (o := .cells #[.int .i64 a0_0, .slice A0_1 l0_1.length c0_1, .bool a0_2] 34 (0, 0)) (by (with_reducible repeat (first | refine blk_drewN ?_ _ | refine blk_drew ?_ | refine blk_alloc ?_ _)); exact BK179.out) hb); have n4_ := Aside0.mk (blk_below (g := gb193) (o := .cells #[.int .i64 t186, .slice Ao22 t187.length co22, .bool t190] 26 (0, 0)) (by (with_reducible repeat (first | refine blk_drewN ?_ _ | refine blk_drew ?_ | refine blk_alloc ?_ _)); exact BK193.out) hb); have n5_ := Aside0.mk (blk_below (g := gb199) (o := .cells #[.int .i64 t194, .slice Ao29 t216.length co29, .bool t198] 26 (0, 0)) (by (with_reducible repeat (first | refine blk_drewN ?_ _ | refine blk_drew ?_ | refine blk_alloc ?_ _)); exact BK199.out) hb); have n6_ := Aside0.mk (blk_below (g := gb207) (o := .cells #[.int .i64 t200, .slice Ao36 t201.length co36, .bool t204] 26 (0, 0)) (by (with_reducible repeat (first | refine blk_drewN ?_ _ | refine blk_drew ?_ | refine blk_alloc ?_ _)); exact BK207.out) hb); have n7_ := Aside0.mk (below_step (by repeat (first | (with_reducible first | exact HB.out | apply below_alloc | apply pw_below_drewN | apply below_drew1 | refine below_set ?_ GE179.out | refine below_set ?_ GE193.out | refine below_set ?_ GE199.out | refine below_set ?_ GE207.out) | exact HB.out)) hb); clear HO_194001; clear HO_200001; clear HO_208001; clear BK179; clear BK193; clear BK199; clear BK207; clear HB; have HO_194001 := n0_; have HO_200001 := n1_; have HO_208001 := n2_; have BK179 := n3_; have BK193 := n4_; have BK199 := n5_; have BK207 := n6_; have HB := n7_; clear n0_ n1_ n2_ n3_ n4_ n5_ n6_ n7_; (try clear hb); (try clear hb2); (try clear hk); (try clear hi); have hnb129 := NB179_193.out; have hnc129 := NB193_179.out; have hnb130 := NB179_199.out; have hnc130 := NB199_179.out; have hcz131_0 : w128.cell? ⟨gb179, 0, none⟩ = some (.int .i64 a0_0) := (blk_cell BK179.out 0).trans rfl; have hcz131_1 : w128.cell? ⟨gb179, 1, none⟩ = some (.slice A0_1 l0_1.length c0_1) := (blk_cell BK179.out 1).trans rfl; have hcz131_2 : w128.cell? ⟨gb179, 2, none⟩ = some (.bool a0_2) := (blk_cell BK179.out 2).trans rfl; have hfz131_0 := blk_frozen BK179.out 0; have hfz131_1 := blk_frozen BK179.out 1; have hfz131_2 := blk_frozen BK179.out 2) | ((with_reducible refine gate_callee (f := 18) rfl ?_); refine goesL_ (some 90) rfl rfl Try.func18 (by kernel_rfl) rfl #[.agg #[.int .i64 a0_0, .slice A0_1 l0_1.length c0_1, .bool a0_2]] rfl (by (try simp only [List.map_toArray, List.map_cons, List.map_nil]); first | done | rfl | (simp only [List.length_drop, List.length_take]; rfl)) ?_; (with_reducible refine (laws_toChan.calls kj68 a0_0 _ _ l0_1 a0_2 t221 t222 t225 _ ?side1 ?side2 A119.out).mono ?_); (case side1 => repeat (first | exact (Kd.C_below HR0_1.out HB.out) | (with_reducible refine Kd.C_alloc ?_ _) | (with_reducible refine Kd.C_drewN ?_ _) | (with_reducible refine Kd.C_drew ?_))); (case side2 => exact HC0_1.out); rintro e w132 ⟨v223, rfl, ho0, hb⟩; refine ⟨_, rfl, ?_⟩; have n0_ := Aside0.mk (Kd.Q_elder' (by (with_reducible repeat (first | apply Kd.Q_alloc | apply Kd.Q_drewN | apply Kd.Q_drew)); exact HO_194001.out) (Kd.R_base ho0) hb); have n1_ := Aside0.mk (Kd.Q_elder' (by (with_reducible repeat (first | apply Kd.Q_alloc | apply Kd.Q_drewN | apply Kd.Q_drew)); exact HO_200001.out) (Kd.R_base ho0) hb); have n2_ := Aside0.mk (Kd.Q_elder' (by (with_reducible repeat (first | apply Kd.Q_alloc | apply Kd.Q_drewN | apply Kd.Q_drew)); exact HO_208001.out) (Kd.R_base ho0) hb); have n3_ := Aside0.mk (Kd.R_lower (Kd.R_new' (Kd.R_new' (Kd.R_new' ho0 (Kd.Q_lt (by (with_reducible repeat (first | apply Kd.Q_alloc | apply Kd.Q_drewN | apply Kd.Q_drew)); exact HO_194001.out))) (Kd.Q_lt (by (with_reducible repeat (first | apply Kd.Q_alloc | apply Kd.Q_drewN | apply Kd.Q_drew)); exact HO_200001.out))) (Kd.Q_lt (by (with_reducible repeat (first | apply Kd.Q_alloc | apply Kd.Q_drewN | apply Kd.Q_drew)); exact HO_208001.out))) (below_size (by repeat (first | (with_reducible first | exact HB.out | apply below_alloc | apply pw_below_drewN | apply below_drew1 | refine below_set ?_ GE179.out | refine below_set ?_ GE193.out | refine below_set ?_ GE199.out | refine below_set ?_ GE207.out) | exact HB.out)))); have n4_ := Aside0.mk (blk_below (g := gb179) (o := .cells #[.int .i64 a0_0, .slice A0_1 l0_1.length c0_1, .bool a0_2] 34 (0, 0)) (by (with_reducible repeat (first | refine blk_drewN ?_ _ | refine blk_drew ?_ | refine blk_alloc ?_ _)); exact BK179.out) hb); have n5_ := Aside0.mk (blk_below (g := gb193) (o := .cells #[.int .i64 t186, .slice Ao22 t187.length co22, .bool t190] 26 (0, 0)) (by (with_reducible repeat (first | refine blk_drewN ?_ _ | refine blk_drew ?_ | refine blk_alloc ?_ _)); exact BK193.out) hb); have n6_ := Aside0.mk (blk_below (g := gb199) (o := .cells #[.int .i64 t194, .slice Ao29 t216.length co29, .bool t198] 26 (0, 0)) (by (with_reducible repeat (first | refine blk_drewN ?_ _ | refine blk_drew ?_ | refine blk_alloc ?_ _)); exact BK199.out) hb); have n7_ := Aside0.mk (blk_below (g := gb207) (o := .cells #[.int .i64 t200, .slice Ao36 t201.length co36, .bool t204] 26 (0, 0)) (by (with_reducible repeat (first | refine blk_drewN ?_ _ | refine blk_drew ?_ | refine blk_alloc ?_ _)); exact BK207.out) hb); have n8_ := Aside0.mk (below_step (by repeat (first | (with_reducible first | exact HB.out | apply below_alloc | apply pw_below_drewN | apply below_drew1 | refine below_set ?_ GE179.out | refine below_set ?_ GE193.out | refine below_set ?_ GE199.out | refine below_set ?_ GE207.out) | exact HB.out)) hb); clear HO_194001; clear HO_200001; clear HO_208001; clear BK179; clear BK193; clear BK199; clear BK207; clear HB; have HO_194001 := n0_; have HO_200001 := n1_; have HO_208001 := n2_; have HO224 := n3_; have BK179 := n4_; have BK193 := n5_; have BK199 := n6_; have BK207 := n7_; have HB := n8_; clear n0_ n1_ n2_ n3_ n4_ n5_ n6_ n7_ n8_; (try clear hb); (try clear hb2); (try clear hk); (try clear hi); (try clear ho0); obtain ⟨Ao133, co133, eo133⟩ := Kd.R_slice HO224.out; subst eo133) | ((with_reducible refine gate_callee (f := 13) rfl ?_); refine goesL_ (some 91) rfl rfl Try.func13 (by kernel_rfl) rfl #[.agg #[.int .i64 t221, .slice Ao133 t222.length co133, .bool t225]] rfl (by (try simp only [List.map_toArray, List.map_cons, List.map_nil]); first | done | rfl | (simp only [List.length_drop, List.length_take]; rfl)) ?_; (with_reducible refine (impl_ChanTake.calls t221 _ _ t222 t225 t226 t227 t230 t231 t232 _ ?side1 ?side2 A120.out).mono ?_); (case side1 => repeat (first | exact (Kd.R_reads' HO224.out).2.2 | (with_reducible refine Kd.C_alloc ?_ _) | (with_reducible refine Kd.C_drewN ?_ _) | (with_reducible refine Kd.C_drew ?_))); (case side2 => exact (Kd.R_reads' HO224.out).2.1); rintro e w134 ⟨v228, rfl, ho0, hb⟩; refine ⟨_, rfl, ?_⟩; have n0_ := Aside0.mk (Kd.Q_elder' (by (with_reducible repeat (first | apply Kd.Q_alloc | apply Kd.Q_drewN | apply Kd.Q_drew)); exact HO_194001.out) (Kd.Q_base ho0) hb); have n1_ := Aside0.mk (Kd.Q_elder' (by (with_reducible repeat (first | apply Kd.Q_alloc | apply Kd.Q_drewN | apply Kd.Q_drew)); exact HO_200001.out) (Kd.Q_base ho0) hb); have n2_ := Aside0.mk (Kd.Q_elder' (by (with_reducible repeat (first | apply Kd.Q_alloc | apply Kd.Q_drewN | apply Kd.Q_drew)); exact HO_208001.out) (Kd.Q_base ho0) hb); have n3_ := Aside0.mk (Kd.R_elder' (by (with_reducible repeat (first | apply Kd.R_alloc | apply Kd.R_drewN | apply Kd.R_drew)); exact HO224.out) (Kd.Q_base ho0) hb); have n4_ := Aside0.mk (Kd.Q_lower (Kd.Q_new' (Kd.Q_new' (Kd.Q_new' (Kd.Q_new' ho0 (Kd.Q_lt (by (with_reducible repeat (first | apply Kd.Q_alloc | apply Kd.Q_drewN | apply Kd.Q_drew)); exact HO_194001.out))) (Kd.Q_lt (by (with_reducible repeat (first | apply Kd.Q_alloc | apply Kd.Q_drewN | apply Kd.Q_drew)); exact HO_200001.out))) (Kd.Q_lt (by (with_reducible repeat (first | apply Kd.Q_alloc | apply Kd.Q_drewN | apply Kd.Q_drew)); exact HO_208001.out))) (Kd.R_lt (by (with_reducible repeat (first | apply Kd.R_alloc | apply Kd.R_drewN | apply Kd.R_drew)); exact HO224.out))) (below_size (by repeat (first | (with_reducible first | exact HB.out | apply below_alloc | apply pw_below_drewN | apply below_drew1 | refine below_set ?_ GE179.out | refine below_set ?_ GE193.out | refine below_set ?_ GE199.out | refine below_set ?_ GE207.out) | exact HB.out)))); have n5_ := Aside0.mk (blk_below (g := gb179) (o := .cells #[.int .i64 a0_0, .slice A0_1 l0_1.length c0_1, .bool a0_2] 34 (0, 0)) (by (with_reducible repeat (first | refine blk_drewN ?_ _ | refine blk_drew ?_ | refine blk_alloc ?_ _)); exact BK179.out) hb); have n6_ := Aside0.mk (blk_below (g := gb193) (o := .cells #[.int .i64 t186, .slice Ao22 t187.length co22, .bool t190] 26 (0, 0)) (by (with_reducible repeat (first | refine blk_drewN ?_ _ | refine blk_drew ?_ | refine blk_alloc ?_ _)); exact BK193.out) hb); have n7_ := Aside0.mk (blk_below (g := gb199) (o := .cells #[.int .i64 t194, .slice Ao29 t216.length co29, .bool t198] 26 (0, 0)) (by (with_reducible repeat (first | refine blk_drewN ?_ _ | refine blk_drew ?_ | refine blk_alloc ?_ _)); exact BK199.out) hb); have n8_ := Aside0.mk (blk_below (g := gb207) (o := .cells #[.int .i64 t200, .slice Ao36 t201.length co36, .bool t204] 26 (0, 0)) (by (with_reducible repeat (first | refine blk_drewN ?_ _ | refine blk_drew ?_ | refine blk_alloc ?_ _)); exact BK207.out) hb); have n9_ := Aside0.mk (below_step (by repeat (first | (with_reducible first | exact HB.out | apply below_alloc | apply pw_below_drewN | apply below_drew1 | refine below_set ?_ GE179.out | refine below_set ?_ GE193.out | refine below_set ?_ GE199.out | refine below_set ?_ GE207.out) | exact HB.out)) hb); clear HO_194001; clear HO_200001; clear HO_208001; clear HO224; clear BK179; clear BK193; clear BK199; clear BK207; clear HB; have HO_194001 := n0_; have HO_200001 := n1_; have HO_208001 := n2_; have HO224 := n3_; have HO229 := n4_; have BK179 := n5_; have BK193 := n6_; have BK199 := n7_; have BK207 := n8_; have HB := n9_; clear n0_ n1_ n2_ n3_ n4_ n5_ n6_ n7_ n8_ n9_; (try clear hb); (try clear hb2); (try clear hk); (try clear hi); (try clear ho0)) | ((with_reducible refine gate_dst (N := 14) rfl ?_); refine box_event ?hg (N := 14) ?hd (cs := #[.int .i64 0, .slice none 0 0, .bool false]) (t := 26) ?hr ?_; (case hd => rfl); (case hg => rfl); (case hr => first | (go_simp; done) | (go_simp; rfl)); intro gb233 hg w135 hbox hb; have n0_ := Aside0.mk (Kd.Q_below (by (with_reducible repeat (first | apply Kd.Q_alloc | apply Kd.Q_drewN | apply Kd.Q_drew)); exact HO_194001.out) hb); have n1_ := Aside0.mk (Kd.Q_below (by (with_reducible repeat (first | apply Kd.Q_alloc | apply Kd.Q_drewN | apply Kd.Q_drew)); exact HO_200001.out) hb); have n2_ := Aside0.mk (Kd.Q_below (by (with_reducible repeat (first | apply Kd.Q_alloc | apply Kd.Q_drewN | apply Kd.Q_drew)); exact HO_208001.out) hb); have n3_ := Aside0.mk (Kd.R_below (by (with_reducible repeat (first | apply Kd.R_alloc | apply Kd.R_drewN | apply Kd.R_drew)); exact HO224.out) hb); have n4_ := Aside0.mk (Kd.Q_below (by (with_reducible repeat (first | apply Kd.Q_alloc | apply Kd.Q_drewN | apply Kd.Q_drew)); exact HO229.out) hb); have n5_ := Aside0.mk (blk_below (g := gb179) (o := .cells #[.int .i64 a0_0, .slice A0_1 l0_1.length c0_1, .bool a0_2] 34 (0, 0)) (by (with_reducible repeat (first | refine blk_drewN ?_ _ | refine blk_drew ?_ | refine blk_alloc ?_ _)); exact BK179.out) hb); have n6_ := Aside0.mk (blk_below (g := gb193) (o := .cells #[.int .i64 t186, .slice Ao22 t187.length co22, .bool t190] 26 (0, 0)) (by (with_reducible repeat (first | refine blk_drewN ?_ _ | refine blk_drew ?_ | refine blk_alloc ?_ _)); exact BK193.out) hb); have n7_ := Aside0.mk (blk_below (g := gb199) (o := .cells #[.int .i64 t194, .slice Ao29 t216.length co29, .bool t198] 26 (0, 0)) (by (with_reducible repeat (first | refine blk_drewN ?_ _ | refine blk_drew ?_ | refine blk_alloc ?_ _)); exact BK199.out) hb); have n8_ := Aside0.mk (blk_below (g := gb207) (o := .cells #[.int .i64 t200, .slice Ao36 t201.length co36, .bool t204] 26 (0, 0)) (by (with_reducible repeat (first | refine blk_drewN ?_ _ | refine blk_drew ?_ | refine blk_alloc ?_ _)); exact BK207.out) hb); have n9_ := Aside0.mk (below_step (by repeat (first | (with_reducible first | exact HB.out | apply below_alloc | apply pw_below_drewN | apply below_drew1 | refine below_set ?_ GE179.out | refine below_set ?_ GE193.out | refine below_set ?_ GE199.out | refine below_set ?_ GE207.out) | exact HB.out)) hb); have n10_ := Aside0.mk (hbox); have n11_ := Aside0.mk ((by rw [hg]; exact (below_size (by repeat (first | (with_reducible first | exact HB.out | apply below_alloc | apply pw_below_drewN | apply below_drew1 | refine below_set ?_ GE179.out | refine below_set ?_ GE193.out | refine below_set ?_ GE199.out | refine below_set ?_ GE207.out) | exact HB.out))) : w.heap.size ≤ gb233)); have n12_ := Aside0.mk ((by rw [hg]; exact (below_size (by repeat (first | (with_reducible first | exact HB.out | apply below_alloc | apply pw_below_drewN | apply below_drew1 | refine below_set ?_ GE179.out | refine below_set ?_ GE193.out | refine below_set ?_ GE199.out | refine below_set ?_ GE207.out) | exact HB.out))) : w.heap.size ≤ gb233)); have n13_ := Aside0.mk ((by rw [hg]; exact Nat.ne_of_lt (blk_lt (g := gb179) (o := .cells #[.int .i64 a0_0, .slice A0_1 l0_1.length c0_1, .bool a0_2] 34 (0, 0)) (by (with_reducible repeat (first | refine blk_drewN ?_ _ | refine blk_drew ?_ | refine blk_alloc ?_ _)); exact BK179.out)) : gb179 ≠ gb233)); have n14_ := Aside0.mk ((by rw [hg]; exact Nat.ne_of_gt (blk_lt (g := gb179) (o := .cells #[.int .i64 a0_0, .slice A0_1 l0_1.length c0_1, .bool a0_2] 34 (0, 0)) (by (with_reducible repeat (first | refine blk_drewN ?_ _ | refine blk_drew ?_ | refine blk_alloc ?_ _)); exact BK179.out)) : gb233 ≠ gb179)); have n15_ := Aside0.mk ((by rw [hg]; exact Nat.ne_of_lt (blk_lt (g := gb193) (o := .cells #[.int .i64 t186, .slice Ao22 t187.length co22, .bool t190] 26 (0, 0)) (by (with_reducible repeat (first | refine blk_drewN ?_ _ | refine blk_drew ?_ | refine blk_alloc ?_ _)); exact BK193.out)) : gb193 ≠ gb233)); have n16_ := Aside0.mk ((by rw [hg]; exact Nat.ne_of_gt (blk_lt (g := gb193) (o := .cells #[.int .i64 t186, .slice Ao22 t187.length co22, .bool t190] 26 (0, 0)) (by (with_reducible repeat (first | refine blk_drewN ?_ _ | refine blk_drew ?_ | refine blk_alloc ?_ _)); exact BK193.out)) : gb233 ≠ gb193)); have n17_ := Aside0.mk ((by rw [hg]; exact Nat.ne_of_lt (blk_lt (g := gb199) (o := .cells #[.int .i64 t194, .slice Ao29 t216.length co29, .bool t198] 26 (0, 0)) (by (with_reducible repeat (first | refine blk_drewN ?_ _ | refine blk_drew ?_ | refine blk_alloc ?_ _)); exact BK199.out)) : gb199 ≠ gb233)); have n18_ := Aside0.mk ((by rw [hg]; exact Nat.ne_of_gt (blk_lt (g := gb199) (o := .cells #[.int .i64 t194, .slice Ao29 t216.length co29, .bool t198] 26 (0, 0)) (by (with_reducible repeat (first | refine blk_drewN ?_ _ | refine blk_drew ?_ | refine blk_alloc ?_ _)); exact BK199.out)) : gb233 ≠ gb199)); have n19_ := Aside0.mk ((by rw [hg]; exact Nat.ne_of_lt (blk_lt (g := gb207) (o := .cells #[.int .i64 t200, .slice Ao36 t201.length co36, .bool t204] 26 (0, 0)) (by (with_reducible repeat (first | refine blk_drewN ?_ _ | refine blk_drew ?_ | refine blk_alloc ?_ _)); exact BK207.out)) : gb207 ≠ gb233)); have n20_ := Aside0.mk ((by rw [hg]; exact Nat.ne_of_gt (blk_lt (g := gb207) (o := .cells #[.int .i64 t200, .slice Ao36 t201.length co36, .bool t204] 26 (0, 0)) (by (with_reducible repeat (first | refine blk_drewN ?_ _ | refine blk_drew ?_ | refine blk_alloc ?_ _)); exact BK207.out)) : gb233 ≠ gb207)); clear HO_194001; clear HO_200001; clear HO_208001; clear HO224; clear HO229; clear BK179; clear BK193; clear BK199; clear BK207; clear HB; have HO_194001 := n0_; have HO_200001 := n1_; have HO_208001 := n2_; have HO224 := n3_; have HO229 := n4_; have BK179 := n5_; have BK193 := n6_; have BK199 := n7_; have BK207 := n8_; have HB := n9_; have BK233 := n10_; have GW233 := n11_; have GE233 := n12_; have NB179_233 := n13_; have NB233_179 := n14_; have NB193_233 := n15_; have NB233_193 := n16_; have NB199_233 := n17_; have NB233_199 := n18_; have NB207_233 := n19_; have NB233_207 := n20_; clear n0_ n1_ n2_ n3_ n4_ n5_ n6_ n7_ n8_ n9_ n10_ n11_ n12_ n13_ n14_ n15_ n16_ n17_ n18_ n19_ n20_; clear hb hbox hg; have hnb136 := NB233_179.out; have hnc136 := NB179_233.out; have hnb137 := NB233_193.out; have hnc137 := NB193_233.out; have hnb138 := NB233_199.out; have hnc138 := NB199_233.out; have hnb139 := NB233_207.out; have hnc139 := NB207_233.out; have hcz140_0 : w135.cell? ⟨gb233, 0, none⟩ = some (.int .i64 0) := (blk_cell BK233.out 0).trans rfl; have hcz140_1 : w135.cell? ⟨gb233, 1, none⟩ = some (.slice none 0 0) := (blk_cell BK233.out 1).trans rfl; have hcz140_2 : w135.cell? ⟨gb233, 2, none⟩ = some (.bool false) := (blk_cell BK233.out 2).trans rfl; have hfz140_0 := blk_frozen BK233.out 0; have hfz140_1 := blk_frozen BK233.out 1; have hfz140_2 := blk_frozen BK233.out 2; obtain ⟨Ao141, co141, eo141, _⟩ := Kd.Q_slice HO229.out; subst eo141))
                      (try simp only [Act.put, List.setIfInBounds_toArray, List.set_cons_zero, List.set_cons_succ])
                      go_cut [108] (fun v108 wc => ∃ (kq : Nat) (x108_120 : Bool), v108 = .bool x108_120 ∧ Aside0 (laws_FnExactChanTake.j2 kq t218 x108_120 t200 t219 t204 = some r) ∧ Aside0 (kq ≤ kj68) ∧ Aside0 (Kd.Q (Kd.int .i64) 3 wc w.heap.size (fun k_ => some k_ ≠ ((.slice Ao29 t216.length co29) : Value).ownBlock ∧ some k_ ≠ ((.slice Ao36 t201.length co36) : Value).ownBlock ∧ some k_ ≠ ((.slice Ao141 t227.length co141) : Value).ownBlock) (.slice Ao22 t187.length co22) t187) ∧ Aside0 (Kd.Q (Kd.int .i64) 3 wc w.heap.size (fun k_ => some k_ ≠ ((.slice Ao22 t187.length co22) : Value).ownBlock ∧ some k_ ≠ ((.slice Ao36 t201.length co36) : Value).ownBlock ∧ some k_ ≠ ((.slice Ao141 t227.length co141) : Value).ownBlock) (.slice Ao29 t216.length co29) t216) ∧ Aside0 (Kd.Q (Kd.int .i64) 3 wc w.heap.size (fun k_ => some k_ ≠ ((.slice Ao22 t187.length co22) : Value).ownBlock ∧ some k_ ≠ ((.slice Ao29 t216.length co29) : Value).ownBlock ∧ some k_ ≠ ((.slice Ao141 t227.length co141) : Value).ownBlock) (.slice Ao36 t201.length co36) t219) ∧ Aside0 (Kd.Q (Kd.int .i64) 3 wc w.heap.size (fun k_ => some k_ ≠ ((.slice Ao22 t187.length co22) : Value).ownBlock ∧ some k_ ≠ ((.slice Ao29 t216.length co29) : Value).ownBlock ∧ some k_ ≠ ((.slice Ao36 t201.length co36) : Value).ownBlock) (.slice Ao141 t227.length co141) t227) ∧ Aside0 (wc.heap[gb179]? = some (.cells #[.int .i64 a0_0, (.slice A0_1 l0_1.length c0_1), .bool a0_2] 34 (0, 0))) ∧ Aside0 (wc.heap[gb193]? = some (.cells #[.int .i64 t186, (.slice Ao22 t187.length co22), .bool t190] 26 (0, 0))) ∧ Aside0 (wc.heap[gb199]? = some (.cells #[.int .i64 t194, (.slice Ao29 t216.length co29), .bool t198] 26 (0, 0))) ∧ Aside0 (wc.heap[gb207]? = some (.cells #[.int .i64 t200, (.slice Ao36 t201.length co36), .bool t204] 26 (0, 0))) ∧ Aside0 (wc.heap[gb233]? = some (.cells #[.int .i64 t226, (.slice Ao141 t227.length co141), .bool t230] 26 (0, 0))) ∧ Aside0 (Below w.heap.size w wc))
                      case first =>
                        have H := HC121.out
                        clear HC121
                        replace H := Option.bind_eq_some_iff.mp H
                        obtain ⟨t234, A1420, H⟩ := H
                        replace H : (if t234 = true then (if t231 = t191 then (laws_FnExactChanTake.j2 kj68 t218 (t232 != t192) t200 t219 t204) else (laws_FnExactChanTake.j2 kj68 t218 true t200 t219 t204)) else (laws_FnExactChanTake.j2 kj68 t218 true t200 t219 t204)) = some r := H
                        have A142 := Aside0.mk A1420
                        clear A1420
                        by_cases c143 : t234 = true
                        · subst c143
                          have H1 : (if t231 = t191 then (laws_FnExactChanTake.j2 kj68 t218 (t232 != t192) t200 t219 t204) else (laws_FnExactChanTake.j2 kj68 t218 true t200 t219 t204)) = some r := by rw [if_pos rfl] at H; exact H
                          clear H
                          have H := H1
                          clear H1
                          by_cases c144 : t231 = t191
                          · rw [if_pos c144] at H
                            have c144b0 : (t231 == t191) = true := beq_iff_eq.mpr c144
                            have c144b1 : (t231 != t191) = false := bne_eq_false_iff_eq.mpr c144
                            clear c144
                            (first | rw [c144b0] | (simp only [i64_w, i32_w]; rw [c144b0]) | skip)
                            have H' := Aside0.mk H
                            clear H
                            have hnb145 := NB233_179.out
                            have hnc145 := NB179_233.out
                            have hnb146 := NB233_193.out
                            have hnc146 := NB193_233.out
                            have hnb147 := NB233_199.out
                            have hnc147 := NB199_233.out
                            have hnb148 := NB233_207.out
                            have hnc148 := NB207_233.out
                            have hcz149_0 : w135.cell? ⟨gb233, 0, none⟩ = some (.int .i64 0) := (blk_cell BK233.out 0).trans rfl
                            have hcz149_1 : w135.cell? ⟨gb233, 1, none⟩ = some (.slice none 0 0) := (blk_cell BK233.out 1).trans rfl
                            have hcz149_2 : w135.cell? ⟨gb233, 2, none⟩ = some (.bool false) := (blk_cell BK233.out 2).trans rfl
                            have hfz149_0 := blk_frozen BK233.out 0
                            have hfz149_1 := blk_frozen BK233.out 1
                            have hfz149_2 := blk_frozen BK233.out 2
                            have hnb150 := NB193_179.out
                            have hnc150 := NB179_193.out
                            have hnb151 := NB193_199.out
                            have hnc151 := NB199_193.out
                            have hnb152 := NB193_207.out
                            have hnc152 := NB207_193.out
                            have hcz153_0 : w135.cell? ⟨gb193, 0, none⟩ = some (.int .i64 t186) := (blk_cell BK193.out 0).trans rfl
                            have hcz153_1 : w135.cell? ⟨gb193, 1, none⟩ = some (.slice Ao22 t187.length co22) := (blk_cell BK193.out 1).trans rfl
                            have hcz153_2 : w135.cell? ⟨gb193, 2, none⟩ = some (.bool t190) := (blk_cell BK193.out 2).trans rfl
                            have hfz153_0 := blk_frozen BK193.out 0
                            have hfz153_1 := blk_frozen BK193.out 1
                            have hfz153_2 := blk_frozen BK193.out 2
                            go_wp2_with (first | ((with_reducible refine gate_callee (f := 19) rfl ?_); refine goesL_ (some 97) rfl rfl Try.func19 (by kernel_rfl) rfl #[.agg #[.int .i64 t226, .slice Ao141 t227.length co141, .bool t230], .agg #[.int .i64 t186, .slice Ao22 t187.length co22, .bool t190]] rfl (by (try simp only [List.map_toArray, List.map_cons, List.map_nil]); first | done | rfl | (simp only [List.length_drop, List.length_take]; rfl)) ?_; (with_reducible refine (laws_eqChan.calls kj68 t226 _ _ t227 t230 t186 _ _ t187 t190 true _ ?side1 ?side2 ?side3 ?side4 A142.out).mono ?_); (case side1 => refine (Kd.Q_reads' (e := 3) (base := w.heap.size) (ok := fun k_ => ((((True ∧ some k_ ≠ (.slice Ao22 t187.length co22 : Value).ownBlock) ∧ some k_ ≠ (.slice Ao29 t216.length co29 : Value).ownBlock) ∧ some k_ ≠ (.slice Ao36 t201.length co36 : Value).ownBlock) ∧ some k_ ≠ (.slice Ao133 t222.length co133 : Value).ownBlock)) (n := t227.length) (c := co141) ?_).2.2; exact (by (with_reducible repeat (first | apply Kd.Q_alloc | apply Kd.Q_drewN | apply Kd.Q_drew)); exact (Kd.Q_mono (Kd.Q_far (p := ⟨gb233, 2, none⟩) (Kd.Q_far (p := ⟨gb233, 1, none⟩) (Kd.Q_far (p := ⟨gb233, 0, none⟩) (Kd.Q_types HO229.out BK233.out (by decide)) (fun _ hk => hk.2) (.int .i64 t226)) (fun _ hk => hk.2) (.slice Ao141 t227.length co141)) (fun _ hk => hk.2) (.bool t230)) (fun _ h_ => h_.1)))); (case side2 => exact (Kd.Q_reads' HO229.out).2.1); (case side3 => refine (Kd.Q_reads' (e := 3) (base := w.heap.size) (ok := fun k_ => (((some k_ ≠ (.slice Ao29 t216.length co29 : Value).ownBlock ∧ some k_ ≠ (.slice Ao36 t201.length co36 : Value).ownBlock) ∧ some k_ ≠ (.slice Ao133 t222.length co133 : Value).ownBlock) ∧ some k_ ≠ (.slice Ao141 t227.length co141 : Value).ownBlock)) (n := t187.length) (c := co22) ?_).2.2; exact (by (with_reducible repeat (first | apply Kd.Q_alloc | apply Kd.Q_drewN | apply Kd.Q_drew)); exact (Kd.Q_mono (Kd.Q_far (p := ⟨gb233, 2, none⟩) (Kd.Q_far (p := ⟨gb233, 1, none⟩) (Kd.Q_far (p := ⟨gb233, 0, none⟩) (Kd.Q_types HO_194001.out BK233.out (by decide)) (fun _ hk => hk.2) (.int .i64 t226)) (fun _ hk => hk.2) (.slice Ao141 t227.length co141)) (fun _ hk => hk.2) (.bool t230)) (fun _ h_ => h_.1)))); (case side4 => exact (Kd.Q_reads' HO_194001.out).2.1); rintro e w154 ⟨rfl, hb⟩; refine ⟨_, rfl, ?_⟩; have n0_ := Aside0.mk (Kd.Q_below (by (with_reducible repeat (first | apply Kd.Q_alloc | apply Kd.Q_drewN | apply Kd.Q_drew)); exact (Kd.Q_mono (Kd.Q_far (p := ⟨gb233, 2, none⟩) (Kd.Q_far (p := ⟨gb233, 1, none⟩) (Kd.Q_far (p := ⟨gb233, 0, none⟩) (Kd.Q_types HO_194001.out BK233.out (by decide)) (fun _ hk => hk.2) (.int .i64 t226)) (fun _ hk => hk.2) (.slice Ao141 t227.length co141)) (fun _ hk => hk.2) (.bool t230)) (fun _ h_ => h_.1))) hb); have n1_ := Aside0.mk (Kd.Q_below (by (with_reducible repeat (first | apply Kd.Q_alloc | apply Kd.Q_drewN | apply Kd.Q_drew)); exact (Kd.Q_mono (Kd.Q_far (p := ⟨gb233, 2, none⟩) (Kd.Q_far (p := ⟨gb233, 1, none⟩) (Kd.Q_far (p := ⟨gb233, 0, none⟩) (Kd.Q_types HO_200001.out BK233.out (by decide)) (fun _ hk => hk.2) (.int .i64 t226)) (fun _ hk => hk.2) (.slice Ao141 t227.length co141)) (fun _ hk => hk.2) (.bool t230)) (fun _ h_ => h_.1))) hb); have n2_ := Aside0.mk (Kd.Q_below (by (with_reducible repeat (first | apply Kd.Q_alloc | apply Kd.Q_drewN | apply Kd.Q_drew)); exact (Kd.Q_mono (Kd.Q_far (p := ⟨gb233, 2, none⟩) (Kd.Q_far (p := ⟨gb233, 1, none⟩) (Kd.Q_far (p := ⟨gb233, 0, none⟩) (Kd.Q_types HO_208001.out BK233.out (by decide)) (fun _ hk => hk.2) (.int .i64 t226)) (fun _ hk => hk.2) (.slice Ao141 t227.length co141)) (fun _ hk => hk.2) (.bool t230)) (fun _ h_ => h_.1))) hb); have n3_ := Aside0.mk (Kd.R_below (by (with_reducible repeat (first | apply Kd.R_alloc | apply Kd.R_drewN | apply Kd.R_drew)); exact (Kd.R_mono (Kd.R_far (p := ⟨gb233, 2, none⟩) (Kd.R_far (p := ⟨gb233, 1, none⟩) (Kd.R_far (p := ⟨gb233, 0, none⟩) (Kd.R_types HO224.out BK233.out (by decide)) (fun _ hk => hk.2) (.int .i64 t226)) (fun _ hk => hk.2) (.slice Ao141 t227.length co141)) (fun _ hk => hk.2) (.bool t230)) (fun _ h_ => h_.1))) hb); have n4_ := Aside0.mk (Kd.Q_below (by (with_reducible repeat (first | apply Kd.Q_alloc | apply Kd.Q_drewN | apply Kd.Q_drew)); exact (Kd.Q_mono (Kd.Q_far (p := ⟨gb233, 2, none⟩) (Kd.Q_far (p := ⟨gb233, 1, none⟩) (Kd.Q_far (p := ⟨gb233, 0, none⟩) (Kd.Q_types HO229.out BK233.out (by decide)) (fun _ hk => hk.2) (.int .i64 t226)) (fun _ hk => hk.2) (.slice Ao141 t227.length co141)) (fun _ hk => hk.2) (.bool t230)) (fun _ h_ => h_.1))) hb); have n5_ := Aside0.mk (blk_below (g := gb179) (o := .cells #[.int .i64 a0_0, .slice A0_1 l0_1.length c0_1, .bool a0_2] 34 (0, 0)) (by (with_reducible repeat (first | refine blk_drewN ?_ _ | refine blk_drew ?_ | refine blk_alloc ?_ _)); refine blk_far ?_ NB179_233.out _; (with_reducible repeat (first | refine blk_drewN ?_ _ | refine blk_drew ?_ | refine blk_alloc ?_ _)); refine blk_far ?_ NB179_233.out _; (with_reducible repeat (first | refine blk_drewN ?_ _ | refine blk_drew ?_ | refine blk_alloc ?_ _)); refine blk_far ?_ NB179_233.out _; (with_reducible repeat (first | refine blk_drewN ?_ _ | refine blk_drew ?_ | refine blk_alloc ?_ _)); exact BK179.out) hb); have n6_ := Aside0.mk (blk_below (g := gb193) (o := .cells #[.int .i64 t186, .slice Ao22 t187.length co22, .bool t190] 26 (0, 0)) (by (with_reducible repeat (first | refine blk_drewN ?_ _ | refine blk_drew ?_ | refine blk_alloc ?_ _)); refine blk_far ?_ NB193_233.out _; (with_reducible repeat (first | refine blk_drewN ?_ _ | refine blk_drew ?_ | refine blk_alloc ?_ _)); refine blk_far ?_ NB193_233.out _; (with_reducible repeat (first | refine blk_drewN ?_ _ | refine blk_drew ?_ | refine blk_alloc ?_ _)); refine blk_far ?_ NB193_233.out _; (with_reducible repeat (first | refine blk_drewN ?_ _ | refine blk_drew ?_ | refine blk_alloc ?_ _)); exact BK193.out) hb); have n7_ := Aside0.mk (blk_below (g := gb199) (o := .cells #[.int .i64 t194, .slice Ao29 t216.length co29, .bool t198] 26 (0, 0)) (by (with_reducible repeat (first | refine blk_drewN ?_ _ | refine blk_drew ?_ | refine blk_alloc ?_ _)); refine blk_far ?_ NB199_233.out _; (with_reducible repeat (first | refine blk_drewN ?_ _ | refine blk_drew ?_ | refine blk_alloc ?_ _)); refine blk_far ?_ NB199_233.out _; (with_reducible repeat (first | refine blk_drewN ?_ _ | refine blk_drew ?_ | refine blk_alloc ?_ _)); refine blk_far ?_ NB199_233.out _; (with_reducible repeat (first | refine blk_drewN ?_ _ | refine blk_drew ?_ | refine blk_alloc ?_ _)); exact BK199.out) hb); have n8_ := Aside0.mk (blk_below (g := gb207) (o := .cells #[.int .i64 t200, .slice Ao36 t201.length co36, .bool t204] 26 (0, 0)) (by (with_reducible repeat (first | refine blk_drewN ?_ _ | refine blk_drew ?_ | refine blk_alloc ?_ _)); refine blk_far ?_ NB207_233.out _; (with_reducible repeat (first | refine blk_drewN ?_ _ | refine blk_drew ?_ | refine blk_alloc ?_ _)); refine blk_far ?_ NB207_233.out _; (with_reducible repeat (first | refine blk_drewN ?_ _ | refine blk_drew ?_ | refine blk_alloc ?_ _)); refine blk_far ?_ NB207_233.out _; (with_reducible repeat (first | refine blk_drewN ?_ _ | refine blk_drew ?_ | refine blk_alloc ?_ _)); exact BK207.out) hb); have n9_ := Aside0.mk (blk_below (g := gb233) (o := .cells #[.int .i64 t226, .slice Ao141 t227.length co141, .bool t230] 26 (0, 0)) (by (with_reducible repeat (first | refine blk_drewN ?_ _ | refine blk_drew ?_ | refine blk_alloc ?_ _)); refine blk_put (cs := #[.int .i64 t226, .slice Ao141 t227.length co141, .bool false]) ?_ 2 _ rfl; (with_reducible repeat (first | refine blk_drewN ?_ _ | refine blk_drew ?_ | refine blk_alloc ?_ _)); refine blk_put (cs := #[.int .i64 t226, .slice none 0 0, .bool false]) ?_ 1 _ rfl; (with_reducible repeat (first | refine blk_drewN ?_ _ | refine blk_drew ?_ | refine blk_alloc ?_ _)); refine blk_put (cs := #[.int .i64 0, .slice none 0 0, .bool false]) ?_ 0 _ rfl; (with_reducible repeat (first | refine blk_drewN ?_ _ | refine blk_drew ?_ | refine blk_alloc ?_ _)); exact BK233.out) hb); have n10_ := Aside0.mk (below_step (by repeat (first | (with_reducible first | exact HB.out | apply below_alloc | apply pw_below_drewN | apply below_drew1 | refine below_set ?_ GE179.out | refine below_set ?_ GE193.out | refine below_set ?_ GE199.out | refine below_set ?_ GE207.out | refine below_set ?_ GE233.out) | exact HB.out)) hb); clear HO_194001; clear HO_200001; clear HO_208001; clear HO224; clear HO229; clear BK179; clear BK193; clear BK199; clear BK207; clear BK233; clear HB; have HO_194001 := n0_; have HO_200001 := n1_; have HO_208001 := n2_; have HO224 := n3_; have HO229 := n4_; have BK179 := n5_; have BK193 := n6_; have BK199 := n7_; have BK207 := n8_; have BK233 := n9_; have HB := n10_; clear n0_ n1_ n2_ n3_ n4_ n5_ n6_ n7_ n8_ n9_ n10_; (try clear hb); (try clear hb2); (try clear hk); (try clear hi)))
                            go_meet
                            case rel => exact ⟨_, ((t232 != t192)), (by first | rfl | (simp; done) | (simp [*]; done)), H', ⟨by have := HJ10.out; have := HJ68.out; first | omega | exact Nat.le_refl _⟩, ⟨by (try simp only [hl200001_68]); (with_reducible repeat (first | apply Kd.Q_alloc | apply Kd.Q_drewN | apply Kd.Q_drew)); exact Kd.Q_mono HO_194001.out (fun _ hk => ⟨hk.1.1.1, ⟨hk.1.1.2, hk.2⟩⟩)⟩, ⟨by (try simp only [hl200001_68]); (with_reducible repeat (first | apply Kd.Q_alloc | apply Kd.Q_drewN | apply Kd.Q_drew)); exact Kd.Q_mono HO_200001.out (fun _ hk => ⟨hk.1.1.1, ⟨hk.1.1.2, hk.2⟩⟩)⟩, ⟨by (try simp only [hl200001_68]); (with_reducible repeat (first | apply Kd.Q_alloc | apply Kd.Q_drewN | apply Kd.Q_drew)); exact Kd.Q_mono HO_208001.out (fun _ hk => ⟨hk.1.1.1, ⟨hk.1.1.2, hk.2⟩⟩)⟩, ⟨by (try simp only [hl200001_68]); (with_reducible repeat (first | apply Kd.Q_alloc | apply Kd.Q_drewN | apply Kd.Q_drew)); exact Kd.Q_mono HO229.out (fun _ hk => ⟨hk.1.1.1.2, ⟨hk.1.1.2, hk.1.2⟩⟩)⟩, ⟨by (try simp only [hl200001_68]); (with_reducible repeat (first | refine blk_drewN ?_ _ | refine blk_drew ?_ | refine blk_alloc ?_ _)); exact BK179.out⟩, ⟨by (try simp only [hl200001_68]); (with_reducible repeat (first | refine blk_drewN ?_ _ | refine blk_drew ?_ | refine blk_alloc ?_ _)); exact BK193.out⟩, ⟨by (try simp only [hl200001_68]); (with_reducible repeat (first | refine blk_drewN ?_ _ | refine blk_drew ?_ | refine blk_alloc ?_ _)); exact BK199.out⟩, ⟨by (try simp only [hl200001_68]); (with_reducible repeat (first | refine blk_drewN ?_ _ | refine blk_drew ?_ | refine blk_alloc ?_ _)); exact BK207.out⟩, ⟨by (try simp only [hl200001_68]); (with_reducible repeat (first | refine blk_drewN ?_ _ | refine blk_drew ?_ | refine blk_alloc ?_ _)); exact BK233.out⟩, ⟨by repeat (first | (with_reducible first | exact HB.out | apply below_alloc | apply pw_below_drewN | apply below_drew1 | refine below_set ?_ GE179.out | refine below_set ?_ GE193.out | refine below_set ?_ GE199.out | refine below_set ?_ GE207.out | refine below_set ?_ GE233.out) | exact HB.out)⟩⟩
                          · rw [if_neg c144] at H
                            have c144b0 : (t231 == t191) = false := beq_eq_false_iff_ne.mpr c144
                            have c144b1 : (t231 != t191) = true := bne_iff_ne.mpr c144
                            (first | rw [c144b0] | (simp only [i64_w, i32_w]; rw [c144b0]) | skip)
                            have H' := Aside0.mk H
                            clear H
                            have hnb155 := NB233_179.out
                            have hnc155 := NB179_233.out
                            have hnb156 := NB233_193.out
                            have hnc156 := NB193_233.out
                            have hnb157 := NB233_199.out
                            have hnc157 := NB199_233.out
                            have hnb158 := NB233_207.out
                            have hnc158 := NB207_233.out
                            have hcz159_0 : w135.cell? ⟨gb233, 0, none⟩ = some (.int .i64 0) := (blk_cell BK233.out 0).trans rfl
                            have hcz159_1 : w135.cell? ⟨gb233, 1, none⟩ = some (.slice none 0 0) := (blk_cell BK233.out 1).trans rfl
                            have hcz159_2 : w135.cell? ⟨gb233, 2, none⟩ = some (.bool false) := (blk_cell BK233.out 2).trans rfl
                            have hfz159_0 := blk_frozen BK233.out 0
                            have hfz159_1 := blk_frozen BK233.out 1
                            have hfz159_2 := blk_frozen BK233.out 2
                            have hnb160 := NB193_179.out
                            have hnc160 := NB179_193.out
                            have hnb161 := NB193_199.out
                            have hnc161 := NB199_193.out
                            have hnb162 := NB193_207.out
                            have hnc162 := NB207_193.out
                            have hcz163_0 : w135.cell? ⟨gb193, 0, none⟩ = some (.int .i64 t186) := (blk_cell BK193.out 0).trans rfl
                            have hcz163_1 : w135.cell? ⟨gb193, 1, none⟩ = some (.slice Ao22 t187.length co22) := (blk_cell BK193.out 1).trans rfl
                            have hcz163_2 : w135.cell? ⟨gb193, 2, none⟩ = some (.bool t190) := (blk_cell BK193.out 2).trans rfl
                            have hfz163_0 := blk_frozen BK193.out 0
                            have hfz163_1 := blk_frozen BK193.out 1
                            have hfz163_2 := blk_frozen BK193.out 2
                            go_wp2_with (first | ((with_reducible refine gate_callee (f := 19) rfl ?_); refine goesL_ (some 97) rfl rfl Try.func19 (by kernel_rfl) rfl #[.agg #[.int .i64 t226, .slice Ao141 t227.length co141, .bool t230], .agg #[.int .i64 t186, .slice Ao22 t187.length co22, .bool t190]] rfl (by (try simp only [List.map_toArray, List.map_cons, List.map_nil]); first | done | rfl | (simp only [List.length_drop, List.length_take]; rfl)) ?_; (with_reducible refine (laws_eqChan.calls kj68 t226 _ _ t227 t230 t186 _ _ t187 t190 true _ ?side1 ?side2 ?side3 ?side4 A142.out).mono ?_); (case side1 => refine (Kd.Q_reads' (e := 3) (base := w.heap.size) (ok := fun k_ => ((((True ∧ some k_ ≠ (.slice Ao22 t187.length co22 : Value).ownBlock) ∧ some k_ ≠ (.slice Ao29 t216.length co29 : Value).ownBlock) ∧ some k_ ≠ (.slice Ao36 t201.length co36 : Value).ownBlock) ∧ some k_ ≠ (.slice Ao133 t222.length co133 : Value).ownBlock)) (n := t227.length) (c := co141) ?_).2.2; exact (by (with_reducible repeat (first | apply Kd.Q_alloc | apply Kd.Q_drewN | apply Kd.Q_drew)); exact (Kd.Q_mono (Kd.Q_far (p := ⟨gb233, 2, none⟩) (Kd.Q_far (p := ⟨gb233, 1, none⟩) (Kd.Q_far (p := ⟨gb233, 0, none⟩) (Kd.Q_types HO229.out BK233.out (by decide)) (fun _ hk => hk.2) (.int .i64 t226)) (fun _ hk => hk.2) (.slice Ao141 t227.length co141)) (fun _ hk => hk.2) (.bool t230)) (fun _ h_ => h_.1)))); (case side2 => exact (Kd.Q_reads' HO229.out).2.1); (case side3 => refine (Kd.Q_reads' (e := 3) (base := w.heap.size) (ok := fun k_ => (((some k_ ≠ (.slice Ao29 t216.length co29 : Value).ownBlock ∧ some k_ ≠ (.slice Ao36 t201.length co36 : Value).ownBlock) ∧ some k_ ≠ (.slice Ao133 t222.length co133 : Value).ownBlock) ∧ some k_ ≠ (.slice Ao141 t227.length co141 : Value).ownBlock)) (n := t187.length) (c := co22) ?_).2.2; exact (by (with_reducible repeat (first | apply Kd.Q_alloc | apply Kd.Q_drewN | apply Kd.Q_drew)); exact (Kd.Q_mono (Kd.Q_far (p := ⟨gb233, 2, none⟩) (Kd.Q_far (p := ⟨gb233, 1, none⟩) (Kd.Q_far (p := ⟨gb233, 0, none⟩) (Kd.Q_types HO_194001.out BK233.out (by decide)) (fun _ hk => hk.2) (.int .i64 t226)) (fun _ hk => hk.2) (.slice Ao141 t227.length co141)) (fun _ hk => hk.2) (.bool t230)) (fun _ h_ => h_.1)))); (case side4 => exact (Kd.Q_reads' HO_194001.out).2.1); rintro e w164 ⟨rfl, hb⟩; refine ⟨_, rfl, ?_⟩; have n0_ := Aside0.mk (Kd.Q_below (by (with_reducible repeat (first | apply Kd.Q_alloc | apply Kd.Q_drewN | apply Kd.Q_drew)); exact (Kd.Q_mono (Kd.Q_far (p := ⟨gb233, 2, none⟩) (Kd.Q_far (p := ⟨gb233, 1, none⟩) (Kd.Q_far (p := ⟨gb233, 0, none⟩) (Kd.Q_types HO_194001.out BK233.out (by decide)) (fun _ hk => hk.2) (.int .i64 t226)) (fun _ hk => hk.2) (.slice Ao141 t227.length co141)) (fun _ hk => hk.2) (.bool t230)) (fun _ h_ => h_.1))) hb); have n1_ := Aside0.mk (Kd.Q_below (by (with_reducible repeat (first | apply Kd.Q_alloc | apply Kd.Q_drewN | apply Kd.Q_drew)); exact (Kd.Q_mono (Kd.Q_far (p := ⟨gb233, 2, none⟩) (Kd.Q_far (p := ⟨gb233, 1, none⟩) (Kd.Q_far (p := ⟨gb233, 0, none⟩) (Kd.Q_types HO_200001.out BK233.out (by decide)) (fun _ hk => hk.2) (.int .i64 t226)) (fun _ hk => hk.2) (.slice Ao141 t227.length co141)) (fun _ hk => hk.2) (.bool t230)) (fun _ h_ => h_.1))) hb); have n2_ := Aside0.mk (Kd.Q_below (by (with_reducible repeat (first | apply Kd.Q_alloc | apply Kd.Q_drewN | apply Kd.Q_drew)); exact (Kd.Q_mono (Kd.Q_far (p := ⟨gb233, 2, none⟩) (Kd.Q_far (p := ⟨gb233, 1, none⟩) (Kd.Q_far (p := ⟨gb233, 0, none⟩) (Kd.Q_types HO_208001.out BK233.out (by decide)) (fun _ hk => hk.2) (.int .i64 t226)) (fun _ hk => hk.2) (.slice Ao141 t227.length co141)) (fun _ hk => hk.2) (.bool t230)) (fun _ h_ => h_.1))) hb); have n3_ := Aside0.mk (Kd.R_below (by (with_reducible repeat (first | apply Kd.R_alloc | apply Kd.R_drewN | apply Kd.R_drew)); exact (Kd.R_mono (Kd.R_far (p := ⟨gb233, 2, none⟩) (Kd.R_far (p := ⟨gb233, 1, none⟩) (Kd.R_far (p := ⟨gb233, 0, none⟩) (Kd.R_types HO224.out BK233.out (by decide)) (fun _ hk => hk.2) (.int .i64 t226)) (fun _ hk => hk.2) (.slice Ao141 t227.length co141)) (fun _ hk => hk.2) (.bool t230)) (fun _ h_ => h_.1))) hb); have n4_ := Aside0.mk (Kd.Q_below (by (with_reducible repeat (first | apply Kd.Q_alloc | apply Kd.Q_drewN | apply Kd.Q_drew)); exact (Kd.Q_mono (Kd.Q_far (p := ⟨gb233, 2, none⟩) (Kd.Q_far (p := ⟨gb233, 1, none⟩) (Kd.Q_far (p := ⟨gb233, 0, none⟩) (Kd.Q_types HO229.out BK233.out (by decide)) (fun _ hk => hk.2) (.int .i64 t226)) (fun _ hk => hk.2) (.slice Ao141 t227.length co141)) (fun _ hk => hk.2) (.bool t230)) (fun _ h_ => h_.1))) hb); have n5_ := Aside0.mk (blk_below (g := gb179) (o := .cells #[.int .i64 a0_0, .slice A0_1 l0_1.length c0_1, .bool a0_2] 34 (0, 0)) (by (with_reducible repeat (first | refine blk_drewN ?_ _ | refine blk_drew ?_ | refine blk_alloc ?_ _)); refine blk_far ?_ NB179_233.out _; (with_reducible repeat (first | refine blk_drewN ?_ _ | refine blk_drew ?_ | refine blk_alloc ?_ _)); refine blk_far ?_ NB179_233.out _; (with_reducible repeat (first | refine blk_drewN ?_ _ | refine blk_drew ?_ | refine blk_alloc ?_ _)); refine blk_far ?_ NB179_233.out _; (with_reducible repeat (first | refine blk_drewN ?_ _ | refine blk_drew ?_ | refine blk_alloc ?_ _)); exact BK179.out) hb); have n6_ := Aside0.mk (blk_below (g := gb193) (o := .cells #[.int .i64 t186, .slice Ao22 t187.length co22, .bool t190] 26 (0, 0)) (by (with_reducible repeat (first | refine blk_drewN ?_ _ | refine blk_drew ?_ | refine blk_alloc ?_ _)); refine blk_far ?_ NB193_233.out _; (with_reducible repeat (first | refine blk_drewN ?_ _ | refine blk_drew ?_ | refine blk_alloc ?_ _)); refine blk_far ?_ NB193_233.out _; (with_reducible repeat (first | refine blk_drewN ?_ _ | refine blk_drew ?_ | refine blk_alloc ?_ _)); refine blk_far ?_ NB193_233.out _; (with_reducible repeat (first | refine blk_drewN ?_ _ | refine blk_drew ?_ | refine blk_alloc ?_ _)); exact BK193.out) hb); have n7_ := Aside0.mk (blk_below (g := gb199) (o := .cells #[.int .i64 t194, .slice Ao29 t216.length co29, .bool t198] 26 (0, 0)) (by (with_reducible repeat (first | refine blk_drewN ?_ _ | refine blk_drew ?_ | refine blk_alloc ?_ _)); refine blk_far ?_ NB199_233.out _; (with_reducible repeat (first | refine blk_drewN ?_ _ | refine blk_drew ?_ | refine blk_alloc ?_ _)); refine blk_far ?_ NB199_233.out _; (with_reducible repeat (first | refine blk_drewN ?_ _ | refine blk_drew ?_ | refine blk_alloc ?_ _)); refine blk_far ?_ NB199_233.out _; (with_reducible repeat (first | refine blk_drewN ?_ _ | refine blk_drew ?_ | refine blk_alloc ?_ _)); exact BK199.out) hb); have n8_ := Aside0.mk (blk_below (g := gb207) (o := .cells #[.int .i64 t200, .slice Ao36 t201.length co36, .bool t204] 26 (0, 0)) (by (with_reducible repeat (first | refine blk_drewN ?_ _ | refine blk_drew ?_ | refine blk_alloc ?_ _)); refine blk_far ?_ NB207_233.out _; (with_reducible repeat (first | refine blk_drewN ?_ _ | refine blk_drew ?_ | refine blk_alloc ?_ _)); refine blk_far ?_ NB207_233.out _; (with_reducible repeat (first | refine blk_drewN ?_ _ | refine blk_drew ?_ | refine blk_alloc ?_ _)); refine blk_far ?_ NB207_233.out _; (with_reducible repeat (first | refine blk_drewN ?_ _ | refine blk_drew ?_ | refine blk_alloc ?_ _)); exact BK207.out) hb); have n9_ := Aside0.mk (blk_below (g := gb233) (o := .cells #[.int .i64 t226, .slice Ao141 t227.length co141, .bool t230] 26 (0, 0)) (by (with_reducible repeat (first | refine blk_drewN ?_ _ | refine blk_drew ?_ | refine blk_alloc ?_ _)); refine blk_put (cs := #[.int .i64 t226, .slice Ao141 t227.length co141, .bool false]) ?_ 2 _ rfl; (with_reducible repeat (first | refine blk_drewN ?_ _ | refine blk_drew ?_ | refine blk_alloc ?_ _)); refine blk_put (cs := #[.int .i64 t226, .slice none 0 0, .bool false]) ?_ 1 _ rfl; (with_reducible repeat (first | refine blk_drewN ?_ _ | refine blk_drew ?_ | refine blk_alloc ?_ _)); refine blk_put (cs := #[.int .i64 0, .slice none 0 0, .bool false]) ?_ 0 _ rfl; (with_reducible repeat (first | refine blk_drewN ?_ _ | refine blk_drew ?_ | refine blk_alloc ?_ _)); exact BK233.out) hb); have n10_ := Aside0.mk (below_step (by repeat (first | (with_reducible first | exact HB.out | apply below_alloc | apply pw_below_drewN | apply below_drew1 | refine below_set ?_ GE179.out | refine below_set ?_ GE193.out | refine below_set ?_ GE199.out | refine below_set ?_ GE207.out | refine below_set ?_ GE233.out) | exact HB.out)) hb); clear HO_194001; clear HO_200001; clear HO_208001; clear HO224; clear HO229; clear BK179; clear BK193; clear BK199; clear BK207; clear BK233; clear HB; have HO_194001 := n0_; have HO_200001 := n1_; have HO_208001 := n2_; have HO224 := n3_; have HO229 := n4_; have BK179 := n5_; have BK193 := n6_; have BK199 := n7_; have BK207 := n8_; have BK233 := n9_; have HB := n10_; clear n0_ n1_ n2_ n3_ n4_ n5_ n6_ n7_ n8_ n9_ n10_; (try clear hb); (try clear hb2); (try clear hk); (try clear hi)))
                            go_meet
                            case rel => exact ⟨_, (true), (by first | rfl | (simp; done) | (simp [*]; done)), H', ⟨by have := HJ10.out; have := HJ68.out; first | omega | exact Nat.le_refl _⟩, ⟨by (try simp only [hl200001_68]); (with_reducible repeat (first | apply Kd.Q_alloc | apply Kd.Q_drewN | apply Kd.Q_drew)); exact Kd.Q_mono HO_194001.out (fun _ hk => ⟨hk.1.1.1, ⟨hk.1.1.2, hk.2⟩⟩)⟩, ⟨by (try simp only [hl200001_68]); (with_reducible repeat (first | apply Kd.Q_alloc | apply Kd.Q_drewN | apply Kd.Q_drew)); exact Kd.Q_mono HO_200001.out (fun _ hk => ⟨hk.1.1.1, ⟨hk.1.1.2, hk.2⟩⟩)⟩, ⟨by (try simp only [hl200001_68]); (with_reducible repeat (first | apply Kd.Q_alloc | apply Kd.Q_drewN | apply Kd.Q_drew)); exact Kd.Q_mono HO_208001.out (fun _ hk => ⟨hk.1.1.1, ⟨hk.1.1.2, hk.2⟩⟩)⟩, ⟨by (try simp only [hl200001_68]); (with_reducible repeat (first | apply Kd.Q_alloc | apply Kd.Q_drewN | apply Kd.Q_drew)); exact Kd.Q_mono HO229.out (fun _ hk => ⟨hk.1.1.1.2, ⟨hk.1.1.2, hk.1.2⟩⟩)⟩, ⟨by (try simp only [hl200001_68]); (with_reducible repeat (first | refine blk_drewN ?_ _ | refine blk_drew ?_ | refine blk_alloc ?_ _)); exact BK179.out⟩, ⟨by (try simp only [hl200001_68]); (with_reducible repeat (first | refine blk_drewN ?_ _ | refine blk_drew ?_ | refine blk_alloc ?_ _)); exact BK193.out⟩, ⟨by (try simp only [hl200001_68]); (with_reducible repeat (first | refine blk_drewN ?_ _ | refine blk_drew ?_ | refine blk_alloc ?_ _)); exact BK199.out⟩, ⟨by (try simp only [hl200001_68]); (with_reducible repeat (first | refine blk_drewN ?_ _ | refine blk_drew ?_ | refine blk_alloc ?_ _)); exact BK207.out⟩, ⟨by (try simp only [hl200001_68]); (with_reducible repeat (first | refine blk_drewN ?_ _ | refine blk_drew ?_ | refine blk_alloc ?_ _)); exact BK233.out⟩, ⟨by repeat (first | (with_reducible first | exact HB.out | apply below_alloc | apply pw_below_drewN | apply below_drew1 | refine below_set ?_ GE179.out | refine below_set ?_ GE193.out | refine below_set ?_ GE199.out | refine below_set ?_ GE207.out | refine below_set ?_ GE233.out) | exact HB.out)⟩⟩
                        · replace c143 := Bool.eq_false_iff.mpr c143
                          subst c143
                          have H1 : (laws_FnExactChanTake.j2 kj68 t218 true t200 t219 t204) = some r := by rw [if_neg (show ¬ (false = true) by decide)] at H; exact H
                          clear H
                          have H := H1
                          clear H1
                          have H' := Aside0.mk H
                          clear H
                          have hnb165 := NB233_179.out
                          have hnc165 := NB179_233.out
                          have hnb166 := NB233_193.out
                          have hnc166 := NB193_233.out
                          have hnb167 := NB233_199.out
                          have hnc167 := NB199_233.out
                          have hnb168 := NB233_207.out
                          have hnc168 := NB207_233.out
                          have hcz169_0 : w135.cell? ⟨gb233, 0, none⟩ = some (.int .i64 0) := (blk_cell BK233.out 0).trans rfl
                          have hcz169_1 : w135.cell? ⟨gb233, 1, none⟩ = some (.slice none 0 0) := (blk_cell BK233.out 1).trans rfl
                          have hcz169_2 : w135.cell? ⟨gb233, 2, none⟩ = some (.bool false) := (blk_cell BK233.out 2).trans rfl
                          have hfz169_0 := blk_frozen BK233.out 0
                          have hfz169_1 := blk_frozen BK233.out 1
                          have hfz169_2 := blk_frozen BK233.out 2
                          have hnb170 := NB193_179.out
                          have hnc170 := NB179_193.out
                          have hnb171 := NB193_199.out
                          have hnc171 := NB199_193.out
                          have hnb172 := NB193_207.out
                          have hnc172 := NB207_193.out
                          have hcz173_0 : w135.cell? ⟨gb193, 0, none⟩ = some (.int .i64 t186) := (blk_cell BK193.out 0).trans rfl
                          have hcz173_1 : w135.cell? ⟨gb193, 1, none⟩ = some (.slice Ao22 t187.length co22) := (blk_cell BK193.out 1).trans rfl
                          have hcz173_2 : w135.cell? ⟨gb193, 2, none⟩ = some (.bool t190) := (blk_cell BK193.out 2).trans rfl
                          have hfz173_0 := blk_frozen BK193.out 0
                          have hfz173_1 := blk_frozen BK193.out 1
                          have hfz173_2 := blk_frozen BK193.out 2
                          go_wp2_with (first | ((with_reducible refine gate_callee (f := 19) rfl ?_); refine goesL_ (some 97) rfl rfl Try.func19 (by kernel_rfl) rfl #[.agg #[.int .i64 t226, .slice Ao141 t227.length co141, .bool t230], .agg #[.int .i64 t186, .slice Ao22 t187.length co22, .bool t190]] rfl (by (try simp only [List.map_toArray, List.map_cons, List.map_nil]); first | done | rfl | (simp only [List.length_drop, List.length_take]; rfl)) ?_; (with_reducible refine (laws_eqChan.calls kj68 t226 _ _ t227 t230 t186 _ _ t187 t190 false _ ?side1 ?side2 ?side3 ?side4 A142.out).mono ?_); (case side1 => refine (Kd.Q_reads' (e := 3) (base := w.heap.size) (ok := fun k_ => ((((True ∧ some k_ ≠ (.slice Ao22 t187.length co22 : Value).ownBlock) ∧ some k_ ≠ (.slice Ao29 t216.length co29 : Value).ownBlock) ∧ some k_ ≠ (.slice Ao36 t201.length co36 : Value).ownBlock) ∧ some k_ ≠ (.slice Ao133 t222.length co133 : Value).ownBlock)) (n := t227.length) (c := co141) ?_).2.2; exact (by (with_reducible repeat (first | apply Kd.Q_alloc | apply Kd.Q_drewN | apply Kd.Q_drew)); exact (Kd.Q_mono (Kd.Q_far (p := ⟨gb233, 2, none⟩) (Kd.Q_far (p := ⟨gb233, 1, none⟩) (Kd.Q_far (p := ⟨gb233, 0, none⟩) (Kd.Q_types HO229.out BK233.out (by decide)) (fun _ hk => hk.2) (.int .i64 t226)) (fun _ hk => hk.2) (.slice Ao141 t227.length co141)) (fun _ hk => hk.2) (.bool t230)) (fun _ h_ => h_.1)))); (case side2 => exact (Kd.Q_reads' HO229.out).2.1); (case side3 => refine (Kd.Q_reads' (e := 3) (base := w.heap.size) (ok := fun k_ => (((some k_ ≠ (.slice Ao29 t216.length co29 : Value).ownBlock ∧ some k_ ≠ (.slice Ao36 t201.length co36 : Value).ownBlock) ∧ some k_ ≠ (.slice Ao133 t222.length co133 : Value).ownBlock) ∧ some k_ ≠ (.slice Ao141 t227.length co141 : Value).ownBlock)) (n := t187.length) (c := co22) ?_).2.2; exact (by (with_reducible repeat (first | apply Kd.Q_alloc | apply Kd.Q_drewN | apply Kd.Q_drew)); exact (Kd.Q_mono (Kd.Q_far (p := ⟨gb233, 2, none⟩) (Kd.Q_far (p := ⟨gb233, 1, none⟩) (Kd.Q_far (p := ⟨gb233, 0, none⟩) (Kd.Q_types HO_194001.out BK233.out (by decide)) (fun _ hk => hk.2) (.int .i64 t226)) (fun _ hk => hk.2) (.slice Ao141 t227.length co141)) (fun _ hk => hk.2) (.bool t230)) (fun _ h_ => h_.1)))); (case side4 => exact (Kd.Q_reads' HO_194001.out).2.1); rintro e w174 ⟨rfl, hb⟩; refine ⟨_, rfl, ?_⟩; have n0_ := Aside0.mk (Kd.Q_below (by (with_reducible repeat (first | apply Kd.Q_alloc | apply Kd.Q_drewN | apply Kd.Q_drew)); exact (Kd.Q_mono (Kd.Q_far (p := ⟨gb233, 2, none⟩) (Kd.Q_far (p := ⟨gb233, 1, none⟩) (Kd.Q_far (p := ⟨gb233, 0, none⟩) (Kd.Q_types HO_194001.out BK233.out (by decide)) (fun _ hk => hk.2) (.int .i64 t226)) (fun _ hk => hk.2) (.slice Ao141 t227.length co141)) (fun _ hk => hk.2) (.bool t230)) (fun _ h_ => h_.1))) hb); have n1_ := Aside0.mk (Kd.Q_below (by (with_reducible repeat (first | apply Kd.Q_alloc | apply Kd.Q_drewN | apply Kd.Q_drew)); exact (Kd.Q_mono (Kd.Q_far (p := ⟨gb233, 2, none⟩) (Kd.Q_far (p := ⟨gb233, 1, none⟩) (Kd.Q_far (p := ⟨gb233, 0, none⟩) (Kd.Q_types HO_200001.out BK233.out (by decide)) (fun _ hk => hk.2) (.int .i64 t226)) (fun _ hk => hk.2) (.slice Ao141 t227.length co141)) (fun _ hk => hk.2) (.bool t230)) (fun _ h_ => h_.1))) hb); have n2_ := Aside0.mk (Kd.Q_below (by (with_reducible repeat (first | apply Kd.Q_alloc | apply Kd.Q_drewN | apply Kd.Q_drew)); exact (Kd.Q_mono (Kd.Q_far (p := ⟨gb233, 2, none⟩) (Kd.Q_far (p := ⟨gb233, 1, none⟩) (Kd.Q_far (p := ⟨gb233, 0, none⟩) (Kd.Q_types HO_208001.out BK233.out (by decide)) (fun _ hk => hk.2) (.int .i64 t226)) (fun _ hk => hk.2) (.slice Ao141 t227.length co141)) (fun _ hk => hk.2) (.bool t230)) (fun _ h_ => h_.1))) hb); have n3_ := Aside0.mk (Kd.R_below (by (with_reducible repeat (first | apply Kd.R_alloc | apply Kd.R_drewN | apply Kd.R_drew)); exact (Kd.R_mono (Kd.R_far (p := ⟨gb233, 2, none⟩) (Kd.R_far (p := ⟨gb233, 1, none⟩) (Kd.R_far (p := ⟨gb233, 0, none⟩) (Kd.R_types HO224.out BK233.out (by decide)) (fun _ hk => hk.2) (.int .i64 t226)) (fun _ hk => hk.2) (.slice Ao141 t227.length co141)) (fun _ hk => hk.2) (.bool t230)) (fun _ h_ => h_.1))) hb); have n4_ := Aside0.mk (Kd.Q_below (by (with_reducible repeat (first | apply Kd.Q_alloc | apply Kd.Q_drewN | apply Kd.Q_drew)); exact (Kd.Q_mono (Kd.Q_far (p := ⟨gb233, 2, none⟩) (Kd.Q_far (p := ⟨gb233, 1, none⟩) (Kd.Q_far (p := ⟨gb233, 0, none⟩) (Kd.Q_types HO229.out BK233.out (by decide)) (fun _ hk => hk.2) (.int .i64 t226)) (fun _ hk => hk.2) (.slice Ao141 t227.length co141)) (fun _ hk => hk.2) (.bool t230)) (fun _ h_ => h_.1))) hb); have n5_ := Aside0.mk (blk_below (g := gb179) (o := .cells #[.int .i64 a0_0, .slice A0_1 l0_1.length c0_1, .bool a0_2] 34 (0, 0)) (by (with_reducible repeat (first | refine blk_drewN ?_ _ | refine blk_drew ?_ | refine blk_alloc ?_ _)); refine blk_far ?_ NB179_233.out _; (with_reducible repeat (first | refine blk_drewN ?_ _ | refine blk_drew ?_ | refine blk_alloc ?_ _)); refine blk_far ?_ NB179_233.out _; (with_reducible repeat (first | refine blk_drewN ?_ _ | refine blk_drew ?_ | refine blk_alloc ?_ _)); refine blk_far ?_ NB179_233.out _; (with_reducible repeat (first | refine blk_drewN ?_ _ | refine blk_drew ?_ | refine blk_alloc ?_ _)); exact BK179.out) hb); have n6_ := Aside0.mk (blk_below (g := gb193) (o := .cells #[.int .i64 t186, .slice Ao22 t187.length co22, .bool t190] 26 (0, 0)) (by (with_reducible repeat (first | refine blk_drewN ?_ _ | refine blk_drew ?_ | refine blk_alloc ?_ _)); refine blk_far ?_ NB193_233.out _; (with_reducible repeat (first | refine blk_drewN ?_ _ | refine blk_drew ?_ | refine blk_alloc ?_ _)); refine blk_far ?_ NB193_233.out _; (with_reducible repeat (first | refine blk_drewN ?_ _ | refine blk_drew ?_ | refine blk_alloc ?_ _)); refine blk_far ?_ NB193_233.out _; (with_reducible repeat (first | refine blk_drewN ?_ _ | refine blk_drew ?_ | refine blk_alloc ?_ _)); exact BK193.out) hb); have n7_ := Aside0.mk (blk_below (g := gb199) (o := .cells #[.int .i64 t194, .slice Ao29 t216.length co29, .bool t198] 26 (0, 0)) (by (with_reducible repeat (first | refine blk_drewN ?_ _ | refine blk_drew ?_ | refine blk_alloc ?_ _)); refine blk_far ?_ NB199_233.out _; (with_reducible repeat (first | refine blk_drewN ?_ _ | refine blk_drew ?_ | refine blk_alloc ?_ _)); refine blk_far ?_ NB199_233.out _; (with_reducible repeat (first | refine blk_drewN ?_ _ | refine blk_drew ?_ | refine blk_alloc ?_ _)); refine blk_far ?_ NB199_233.out _; (with_reducible repeat (first | refine blk_drewN ?_ _ | refine blk_drew ?_ | refine blk_alloc ?_ _)); exact BK199.out) hb); have n8_ := Aside0.mk (blk_below (g := gb207) (o := .cells #[.int .i64 t200, .slice Ao36 t201.length co36, .bool t204] 26 (0, 0)) (by (with_reducible repeat (first | refine blk_drewN ?_ _ | refine blk_drew ?_ | refine blk_alloc ?_ _)); refine blk_far ?_ NB207_233.out _; (with_reducible repeat (first | refine blk_drewN ?_ _ | refine blk_drew ?_ | refine blk_alloc ?_ _)); refine blk_far ?_ NB207_233.out _; (with_reducible repeat (first | refine blk_drewN ?_ _ | refine blk_drew ?_ | refine blk_alloc ?_ _)); refine blk_far ?_ NB207_233.out _; (with_reducible repeat (first | refine blk_drewN ?_ _ | refine blk_drew ?_ | refine blk_alloc ?_ _)); exact BK207.out) hb); have n9_ := Aside0.mk (blk_below (g := gb233) (o := .cells #[.int .i64 t226, .slice Ao141 t227.length co141, .bool t230] 26 (0, 0)) (by (with_reducible repeat (first | refine blk_drewN ?_ _ | refine blk_drew ?_ | refine blk_alloc ?_ _)); refine blk_put (cs := #[.int .i64 t226, .slice Ao141 t227.length co141, .bool false]) ?_ 2 _ rfl; (with_reducible repeat (first | refine blk_drewN ?_ _ | refine blk_drew ?_ | refine blk_alloc ?_ _)); refine blk_put (cs := #[.int .i64 t226, .slice none 0 0, .bool false]) ?_ 1 _ rfl; (with_reducible repeat (first | refine blk_drewN ?_ _ | refine blk_drew ?_ | refine blk_alloc ?_ _)); refine blk_put (cs := #[.int .i64 0, .slice none 0 0, .bool false]) ?_ 0 _ rfl; (with_reducible repeat (first | refine blk_drewN ?_ _ | refine blk_drew ?_ | refine blk_alloc ?_ _)); exact BK233.out) hb); have n10_ := Aside0.mk (below_step (by repeat (first | (with_reducible first | exact HB.out | apply below_alloc | apply pw_below_drewN | apply below_drew1 | refine below_set ?_ GE179.out | refine below_set ?_ GE193.out | refine below_set ?_ GE199.out | refine below_set ?_ GE207.out | refine below_set ?_ GE233.out) | exact HB.out)) hb); clear HO_194001; clear HO_200001; clear HO_208001; clear HO224; clear HO229; clear BK179; clear BK193; clear BK199; clear BK207; clear BK233; clear HB; have HO_194001 := n0_; have HO_200001 := n1_; have HO_208001 := n2_; have HO224 := n3_; have HO229 := n4_; have BK179 := n5_; have BK193 := n6_; have BK199 := n7_; have BK207 := n8_; have BK233 := n9_; have HB := n10_; clear n0_ n1_ n2_ n3_ n4_ n5_ n6_ n7_ n8_ n9_ n10_; (try clear hb); (try clear hb2); (try clear hk); (try clear hi)))
                          go_meet
                          case rel => exact ⟨_, (true), (by first | rfl | (simp; done) | (simp [*]; done)), H', ⟨by have := HJ10.out; have := HJ68.out; first | omega | exact Nat.le_refl _⟩, ⟨by (try simp only [hl200001_68]); (with_reducible repeat (first | apply Kd.Q_alloc | apply Kd.Q_drewN | apply Kd.Q_drew)); exact Kd.Q_mono HO_194001.out (fun _ hk => ⟨hk.1.1.1, ⟨hk.1.1.2, hk.2⟩⟩)⟩, ⟨by (try simp only [hl200001_68]); (with_reducible repeat (first | apply Kd.Q_alloc | apply Kd.Q_drewN | apply Kd.Q_drew)); exact Kd.Q_mono HO_200001.out (fun _ hk => ⟨hk.1.1.1, ⟨hk.1.1.2, hk.2⟩⟩)⟩, ⟨by (try simp only [hl200001_68]); (with_reducible repeat (first | apply Kd.Q_alloc | apply Kd.Q_drewN | apply Kd.Q_drew)); exact Kd.Q_mono HO_208001.out (fun _ hk => ⟨hk.1.1.1, ⟨hk.1.1.2, hk.2⟩⟩)⟩, ⟨by (try simp only [hl200001_68]); (with_reducible repeat (first | apply Kd.Q_alloc | apply Kd.Q_drewN | apply Kd.Q_drew)); exact Kd.Q_mono HO229.out (fun _ hk => ⟨hk.1.1.1.2, ⟨hk.1.1.2, hk.1.2⟩⟩)⟩, ⟨by (try simp only [hl200001_68]); (with_reducible repeat (first | refine blk_drewN ?_ _ | refine blk_drew ?_ | refine blk_alloc ?_ _)); exact BK179.out⟩, ⟨by (try simp only [hl200001_68]); (with_reducible repeat (first | refine blk_drewN ?_ _ | refine blk_drew ?_ | refine blk_alloc ?_ _)); exact BK193.out⟩, ⟨by (try simp only [hl200001_68]); (with_reducible repeat (first | refine blk_drewN ?_ _ | refine blk_drew ?_ | refine blk_alloc ?_ _)); exact BK199.out⟩, ⟨by (try simp only [hl200001_68]); (with_reducible repeat (first | refine blk_drewN ?_ _ | refine blk_drew ?_ | refine blk_alloc ?_ _)); exact BK207.out⟩, ⟨by (try simp only [hl200001_68]); (with_reducible repeat (first | refine blk_drewN ?_ _ | refine blk_drew ?_ | refine blk_alloc ?_ _)); exact BK233.out⟩, ⟨by repeat (first | (with_reducible first | exact HB.out | apply below_alloc | apply pw_below_drewN | apply below_drew1 | refine below_set ?_ GE179.out | refine below_set ?_ GE193.out | refine below_set ?_ GE199.out | refine below_set ?_ GE207.out | refine below_set ?_ GE233.out) | exact HB.out)⟩⟩
                      case rest =>
                        clear HC121
                        try clear c1
                        try clear c2
                        try clear p2
                        try clear c3
                        try clear c3b0
                        try clear c4
                        try clear c5
                        try clear c6
                        try clear c7
                        try clear c8
                        try clear c9
                        try clear c10
                        try clear c11
                        try clear c12
                        try clear c13
                        try clear c14
                        try clear c15
                        try clear c16
                        try clear c17
                        try clear c18
                        try clear c19
                        try clear c20
                        try clear c21
                        try clear c26
                        try clear c27
                        try clear c32
                        try clear c33
                        try clear c34
                        try clear c38
                        try clear c39
                        try clear c39b0
                        try clear c39b1
                        try clear c40
                        try clear c41
                        try clear c42
                        try clear c44
                        try clear c45
                        try clear c48
                        try clear c49
                        try clear c50
                        try clear c52
                        try clear c53
                        try clear c56
                        try clear c57
                        try clear c58
                        try clear c60
                        try clear c61
                        try clear c64
                        try clear c67
                        try clear c74
                        try clear c75
                        try clear c76
                        try clear c79
                        try clear c79b0
                        try clear c81
                        try clear c82
                        try clear c82b0
                        try clear c82b1
                        try clear c83
                        try clear c84
                        try clear c85
                        try clear c87
                        try clear c88
                        try clear c91
                        try clear c92
                        try clear c93
                        try clear c95
                        try clear c96
                        try clear c99
                        try clear c100
                        try clear c101
                        try clear c103
                        try clear c104
                        try clear c107
                        try clear c110
                        try clear c110b0
                        try clear c111
                        try clear c112
                        try clear c113
                        try clear c118
                        try clear c118b0
                        try clear c118b1
                        try clear c122
                        try clear c123
                        try clear c124
                        try clear c129
                        try clear c130
                        try clear c136
                        try clear c137
                        try clear c138
                        try clear c139
                        try clear c143
                        try clear c144
                        try clear c144b0
                        try clear c144b1
                        try clear c145
                        try clear c146
                        try clear c147
                        try clear c148
                        try clear c150
                        try clear c151
                        try clear c152
                        try clear c155
                        try clear c156
                        try clear c157
                        try clear c158
                        try clear c160
                        try clear c161
                        try clear c162
                        try clear c165
                        try clear c166
                        try clear c167
                        try clear c168
                        try clear c170
                        try clear c171
                        try clear c172
                        try clear hcz102_0
                        try clear hcz102_1
                        try clear hcz102_2
                        try clear hcz105_0
                        try clear hcz105_1
                        try clear hcz105_2
                        try clear hcz114_0
                        try clear hcz114_1
                        try clear hcz114_2
                        try clear hcz116_0
                        try clear hcz116_1
                        try clear hcz116_2
                        try clear hcz125_0
                        try clear hcz125_1
                        try clear hcz125_2
                        try clear hcz127_0
                        try clear hcz127_1
                        try clear hcz127_2
                        try clear hcz131_0
                        try clear hcz131_1
                        try clear hcz131_2
                        try clear hcz13_0
                        try clear hcz13_1
                        try clear hcz13_2
                        try clear hcz140_0
                        try clear hcz140_1
                        try clear hcz140_2
                        try clear hcz149_0
                        try clear hcz149_1
                        try clear hcz149_2
                        try clear hcz153_0
                        try clear hcz153_1
                        try clear hcz153_2
                        try clear hcz159_0
                        try clear hcz159_1
                        try clear hcz159_2
                        try clear hcz15_0
                        try clear hcz15_1
                        try clear hcz15_2
                        try clear hcz163_0
                        try clear hcz163_1
                        try clear hcz163_2
                        try clear hcz169_0
                        try clear hcz169_1
                        try clear hcz169_2
                        try clear hcz173_0
                        try clear hcz173_1
                        try clear hcz173_2
                        try clear hcz21_0
                        try clear hcz21_1
                        try clear hcz21_2
                        try clear hcz23_0
                        try clear hcz23_1
                        try clear hcz23_2
                        try clear hcz28_0
                        try clear hcz28_1
                        try clear hcz28_2
                        try clear hcz35_0
                        try clear hcz35_1
                        try clear hcz35_2
                        try clear hcz43_0
                        try clear hcz43_1
                        try clear hcz43_2
                        try clear hcz46_0
                        try clear hcz46_1
                        try clear hcz46_2
                        try clear hcz51_0
                        try clear hcz51_1
                        try clear hcz51_2
                        try clear hcz54_0
                        try clear hcz54_1
                        try clear hcz54_2
                        try clear hcz59_0
                        try clear hcz59_1
                        try clear hcz59_2
                        try clear hcz5_0
                        try clear hcz5_1
                        try clear hcz5_2
                        try clear hcz62_0
                        try clear hcz62_1
                        try clear hcz62_2
                        try clear hcz77_0
                        try clear hcz77_1
                        try clear hcz77_2
                        try clear hcz86_0
                        try clear hcz86_1
                        try clear hcz86_2
                        try clear hcz89_0
                        try clear hcz89_1
                        try clear hcz89_2
                        try clear hcz94_0
                        try clear hcz94_1
                        try clear hcz94_2
                        try clear hcz97_0
                        try clear hcz97_1
                        try clear hcz97_2
                        try clear hfz102_0
                        try clear hfz102_1
                        try clear hfz102_2
                        try clear hfz105_0
                        try clear hfz105_1
                        try clear hfz105_2
                        try clear hfz114_0
                        try clear hfz114_1
                        try clear hfz114_2
                        try clear hfz116_0
                        try clear hfz116_1
                        try clear hfz116_2
                        try clear hfz125_0
                        try clear hfz125_1
                        try clear hfz125_2
                        try clear hfz127_0
                        try clear hfz127_1
                        try clear hfz127_2
                        try clear hfz131_0
                        try clear hfz131_1
                        try clear hfz131_2
                        try clear hfz13_0
                        try clear hfz13_1
                        try clear hfz13_2
                        try clear hfz140_0
                        try clear hfz140_1
                        try clear hfz140_2
                        try clear hfz149_0
                        try clear hfz149_1
                        try clear hfz149_2
                        try clear hfz153_0
                        try clear hfz153_1
                        try clear hfz153_2
                        try clear hfz159_0
                        try clear hfz159_1
                        try clear hfz159_2
                        try clear hfz15_0
                        try clear hfz15_1
                        try clear hfz15_2
                        try clear hfz163_0
                        try clear hfz163_1
                        try clear hfz163_2
                        try clear hfz169_0
                        try clear hfz169_1
                        try clear hfz169_2
                        try clear hfz173_0
                        try clear hfz173_1
                        try clear hfz173_2
                        try clear hfz21_0
                        try clear hfz21_1
                        try clear hfz21_2
                        try clear hfz23_0
                        try clear hfz23_1
                        try clear hfz23_2
                        try clear hfz28_0
                        try clear hfz28_1
                        try clear hfz28_2
                        try clear hfz35_0
                        try clear hfz35_1
                        try clear hfz35_2
                        try clear hfz43_0
                        try clear hfz43_1
                        try clear hfz43_2
                        try clear hfz46_0
                        try clear hfz46_1
                        try clear hfz46_2
                        try clear hfz51_0
                        try clear hfz51_1
                        try clear hfz51_2
                        try clear hfz54_0
                        try clear hfz54_1
                        try clear hfz54_2
                        try clear hfz59_0
                        try clear hfz59_1
                        try clear hfz59_2
                        try clear hfz5_0
                        try clear hfz5_1
                        try clear hfz5_2
                        try clear hfz62_0
                        try clear hfz62_1
                        try clear hfz62_2
                        try clear hfz77_0
                        try clear hfz77_1
                        try clear hfz77_2
                        try clear hfz86_0
                        try clear hfz86_1
                        try clear hfz86_2
                        try clear hfz89_0
                        try clear hfz89_1
                        try clear hfz89_2
                        try clear hfz94_0
                        try clear hfz94_1
                        try clear hfz94_2
                        try clear hfz97_0
                        try clear hfz97_1
                        try clear hfz97_2
                        try clear p2
                        obtain ⟨kq, x108_120, rfl, HA, HJ120, HO_194001, HO_200001, HO_208001, HO_234001, BK179, BK193, BK199, BK207, BK233, HB⟩ := hcut
                        have hl208001_120 := (Kd.Q_reads' HO_208001.out).1
                        rw [hl208001_120] at HO_208001
                        (try simp only [hl208001_120])
                        (try simp only [hl208001_120] at BK179)
                        (try simp only [hl208001_120] at BK193)
                        (try simp only [hl208001_120] at BK199)
                        (try simp only [hl208001_120] at BK207)
                        (try simp only [hl208001_120] at BK233)
                        (try simp only [hl208001_120] at HO_194001)
                        (try simp only [hl208001_120] at HO_200001)
                        (try simp only [hl208001_120] at HO_234001)
                        cases kq with
                        | zero => exact absurd HA.out (by simp [laws_FnExactChanTake.j2])
                        | succ kj120 =>
                          have H := HA.out
                          clear HA
                          simp only [laws_FnExactChanTake.j2] at H
                          by_cases c175 : x108_120 = true
                          · subst c175
                            have H1 : (some false) = some r := by rw [if_pos rfl] at H; exact H
                            clear H
                            have H := H1
                            clear H1
                            obtain rfl := Option.some.inj H
                            go_wp2
                            go_ret
                            exact ⟨by first | rfl | (simp [errW_none, errW_some] <;> rfl) | (simp [*, errW_none, errW_some] <;> rfl), by repeat (first | (with_reducible first | exact HB.out | apply below_alloc | apply pw_below_drewN | apply below_drew1 | refine below_set ?_ GE179.out | refine below_set ?_ GE193.out | refine below_set ?_ GE199.out | refine below_set ?_ GE207.out | refine below_set ?_ GE233.out) | exact HB.out)⟩
                          · replace c175 := Bool.eq_false_iff.mpr c175
                            subst c175
                            have H1 : ((laws_heldChan.f kj120 t200 t219 t204 1).bind fun t235 => (if t235 < 0 then (some false) else (if t235 = t218 then (some true) else (some false)))) = some r := by rw [if_neg (show ¬ (false = true) by decide)] at H; exact H
                            clear H
                            have H := H1
                            clear H1
                            replace H := Option.bind_eq_some_iff.mp H
                            obtain ⟨t235, A1760, H⟩ := H
                            replace H : (if t235 < 0 then (some false) else (if t235 = t218 then (some true) else (some false))) = some r := H
                            have A176 := Aside0.mk A1760
                            clear A1760
                            by_cases c177 : t235 < 0
                            · rw [if_pos c177] at H
                              have c177b0 : decide (t235 < 0) = true := decide_eq_true c177
                              clear c177
                              obtain rfl := Option.some.inj H
                              have hnb178 := NB207_179.out
                              have hnc178 := NB179_207.out
                              have hnb179 := NB207_193.out
                              have hnc179 := NB193_207.out
                              have hnb180 := NB207_199.out
                              have hnc180 := NB199_207.out
                              have hnb181 := NB207_233.out
                              have hnc181 := NB233_207.out
                              have hcz182_0 : wc.cell? ⟨gb207, 0, none⟩ = some (.int .i64 t200) := (blk_cell BK207.out 0).trans rfl
                              have hcz182_1 : wc.cell? ⟨gb207, 1, none⟩ = some (.slice Ao36 t219.length co36) := (blk_cell BK207.out 1).trans rfl
                              have hcz182_2 : wc.cell? ⟨gb207, 2, none⟩ = some (.bool t204) := (blk_cell BK207.out 2).trans rfl
                              have hfz182_0 := blk_frozen BK207.out 0
                              have hfz182_1 := blk_frozen BK207.out 1
                              have hfz182_2 := blk_frozen BK207.out 2
                              go_wp2_with (first | ((with_reducible refine gate_callee (f := 21) rfl ?_); refine goesL_ (some 111) rfl rfl Try.func21 (by kernel_rfl) rfl #[.agg #[.int .i64 t200, .slice Ao36 t219.length co36, .bool t204], .int .i64 1] rfl (by (try simp only [List.map_toArray, List.map_cons, List.map_nil]); first | done | rfl | (simp only [List.length_drop, List.length_take]; rfl)) ?_; (with_reducible refine (laws_heldChan.calls kj120 t200 _ _ t219 t204 1 t235 _ ?side1 ?side2 A176.out).mono ?_); (case side1 => repeat (first | exact (Kd.Q_reads' HO_208001.out).2.2 | (with_reducible refine Kd.C_alloc ?_ _) | (with_reducible refine Kd.C_drewN ?_ _) | (with_reducible refine Kd.C_drew ?_))); (case side2 => exact (Kd.Q_reads' HO_208001.out).2.1); rintro e w183 ⟨rfl, hb⟩; refine ⟨_, rfl, ?_⟩; have n0_ := Aside0.mk (Kd.Q_below (by (with_reducible repeat (first | apply Kd.Q_alloc | apply Kd.Q_drewN | apply Kd.Q_drew)); exact HO_194001.out) hb); have n1_ := Aside0.mk (Kd.Q_below (by (with_reducible repeat (first | apply Kd.Q_alloc | apply Kd.Q_drewN | apply Kd.Q_drew)); exact HO_200001.out) hb); have n2_ := Aside0.mk (Kd.Q_below (by (with_reducible repeat (first | apply Kd.Q_alloc | apply Kd.Q_drewN | apply Kd.Q_drew)); exact HO_208001.out) hb); have n3_ := Aside0.mk (Kd.Q_below (by (with_reducible repeat (first | apply Kd.Q_alloc | apply Kd.Q_drewN | apply Kd.Q_drew)); exact HO_234001.out) hb); have n4_ := Aside0.mk (blk_below (g := gb179) (o := .cells #[.int .i64 a0_0, .slice A0_1 l0_1.length c0_1, .bool a0_2] 34 (0, 0)) (by (with_reducible repeat (first | refine blk_drewN ?_ _ | refine blk_drew ?_ | refine blk_alloc ?_ _)); exact BK179.out) hb); have n5_ := Aside0.mk (blk_below (g := gb193) (o := .cells #[.int .i64 t186, .slice Ao22 t187.length co22, .bool t190] 26 (0, 0)) (by (with_reducible repeat (first | refine blk_drewN ?_ _ | refine blk_drew ?_ | refine blk_alloc ?_ _)); exact BK193.out) hb); have n6_ := Aside0.mk (blk_below (g := gb199) (o := .cells #[.int .i64 t194, .slice Ao29 t216.length co29, .bool t198] 26 (0, 0)) (by (with_reducible repeat (first | refine blk_drewN ?_ _ | refine blk_drew ?_ | refine blk_alloc ?_ _)); exact BK199.out) hb); have n7_ := Aside0.mk (blk_below (g := gb207) (o := .cells #[.int .i64 t200, .slice Ao36 t219.length co36, .bool t204] 26 (0, 0)) (by (with_reducible repeat (first | refine blk_drewN ?_ _ | refine blk_drew ?_ | refine blk_alloc ?_ _)); exact BK207.out) hb); have n8_ := Aside0.mk (blk_below (g := gb233) (o := .cells #[.int .i64 t226, .slice Ao141 t227.length co141, .bool t230] 26 (0, 0)) (by (with_reducible repeat (first | refine blk_drewN ?_ _ | refine blk_drew ?_ | refine blk_alloc ?_ _)); exact BK233.out) hb); have n9_ := Aside0.mk (below_step (by repeat (first | (with_reducible first | exact HB.out | apply below_alloc | apply pw_below_drewN | apply below_drew1 | refine below_set ?_ GE179.out | refine below_set ?_ GE193.out | refine below_set ?_ GE199.out | refine below_set ?_ GE207.out | refine below_set ?_ GE233.out) | exact HB.out)) hb); clear HO_194001; clear HO_200001; clear HO_208001; clear HO_234001; clear BK179; clear BK193; clear BK199; clear BK207; clear BK233; clear HB; have HO_194001 := n0_; have HO_200001 := n1_; have HO_208001 := n2_; have HO_234001 := n3_; have BK179 := n4_; have BK193 := n5_; have BK199 := n6_; have BK207 := n7_; have BK233 := n8_; have HB := n9_; clear n0_ n1_ n2_ n3_ n4_ n5_ n6_ n7_ n8_ n9_; (try clear hb); (try clear hb2); (try clear hk); (try clear hi)))
                              go_ret
                              exact ⟨by first | rfl | (simp [errW_none, errW_some] <;> rfl) | (simp [*, errW_none, errW_some] <;> rfl), by repeat (first | (with_reducible first | exact HB.out | apply below_alloc | apply pw_below_drewN | apply below_drew1 | refine below_set ?_ GE179.out | refine below_set ?_ GE193.out | refine below_set ?_ GE199.out | refine below_set ?_ GE207.out | refine below_set ?_ GE233.out) | exact HB.out)⟩
                            · rw [if_neg c177] at H
                              have c177b0 : decide (t235 < 0) = false := decide_eq_false c177
                              clear c177
                              by_cases c184 : t235 = t218
                              · rw [if_pos c184] at H
                                have c184b0 : (t235 == t218) = true := beq_iff_eq.mpr c184
                                have c184b1 : (t235 != t218) = false := bne_eq_false_iff_eq.mpr c184
                                clear c184
                                obtain rfl := Option.some.inj H
                                have hnb185 := NB207_179.out
                                have hnc185 := NB179_207.out
                                have hnb186 := NB207_193.out
                                have hnc186 := NB193_207.out
                                have hnb187 := NB207_199.out
                                have hnc187 := NB199_207.out
                                have hnb188 := NB207_233.out
                                have hnc188 := NB233_207.out
                                have hcz189_0 : wc.cell? ⟨gb207, 0, none⟩ = some (.int .i64 t200) := (blk_cell BK207.out 0).trans rfl
                                have hcz189_1 : wc.cell? ⟨gb207, 1, none⟩ = some (.slice Ao36 t219.length co36) := (blk_cell BK207.out 1).trans rfl
                                have hcz189_2 : wc.cell? ⟨gb207, 2, none⟩ = some (.bool t204) := (blk_cell BK207.out 2).trans rfl
                                have hfz189_0 := blk_frozen BK207.out 0
                                have hfz189_1 := blk_frozen BK207.out 1
                                have hfz189_2 := blk_frozen BK207.out 2
                                go_wp2_with (first | ((with_reducible refine gate_callee (f := 21) rfl ?_); refine goesL_ (some 111) rfl rfl Try.func21 (by kernel_rfl) rfl #[.agg #[.int .i64 t200, .slice Ao36 t219.length co36, .bool t204], .int .i64 1] rfl (by (try simp only [List.map_toArray, List.map_cons, List.map_nil]); first | done | rfl | (simp only [List.length_drop, List.length_take]; rfl)) ?_; (with_reducible refine (laws_heldChan.calls kj120 t200 _ _ t219 t204 1 t235 _ ?side1 ?side2 A176.out).mono ?_); (case side1 => repeat (first | exact (Kd.Q_reads' HO_208001.out).2.2 | (with_reducible refine Kd.C_alloc ?_ _) | (with_reducible refine Kd.C_drewN ?_ _) | (with_reducible refine Kd.C_drew ?_))); (case side2 => exact (Kd.Q_reads' HO_208001.out).2.1); rintro e w190 ⟨rfl, hb⟩; refine ⟨_, rfl, ?_⟩; have n0_ := Aside0.mk (Kd.Q_below (by (with_reducible repeat (first | apply Kd.Q_alloc | apply Kd.Q_drewN | apply Kd.Q_drew)); exact HO_194001.out) hb); have n1_ := Aside0.mk (Kd.Q_below (by (with_reducible repeat (first | apply Kd.Q_alloc | apply Kd.Q_drewN | apply Kd.Q_drew)); exact HO_200001.out) hb); have n2_ := Aside0.mk (Kd.Q_below (by (with_reducible repeat (first | apply Kd.Q_alloc | apply Kd.Q_drewN | apply Kd.Q_drew)); exact HO_208001.out) hb); have n3_ := Aside0.mk (Kd.Q_below (by (with_reducible repeat (first | apply Kd.Q_alloc | apply Kd.Q_drewN | apply Kd.Q_drew)); exact HO_234001.out) hb); have n4_ := Aside0.mk (blk_below (g := gb179) (o := .cells #[.int .i64 a0_0, .slice A0_1 l0_1.length c0_1, .bool a0_2] 34 (0, 0)) (by (with_reducible repeat (first | refine blk_drewN ?_ _ | refine blk_drew ?_ | refine blk_alloc ?_ _)); exact BK179.out) hb); have n5_ := Aside0.mk (blk_below (g := gb193) (o := .cells #[.int .i64 t186, .slice Ao22 t187.length co22, .bool t190] 26 (0, 0)) (by (with_reducible repeat (first | refine blk_drewN ?_ _ | refine blk_drew ?_ | refine blk_alloc ?_ _)); exact BK193.out) hb); have n6_ := Aside0.mk (blk_below (g := gb199) (o := .cells #[.int .i64 t194, .slice Ao29 t216.length co29, .bool t198] 26 (0, 0)) (by (with_reducible repeat (first | refine blk_drewN ?_ _ | refine blk_drew ?_ | refine blk_alloc ?_ _)); exact BK199.out) hb); have n7_ := Aside0.mk (blk_below (g := gb207) (o := .cells #[.int .i64 t200, .slice Ao36 t219.length co36, .bool t204] 26 (0, 0)) (by (with_reducible repeat (first | refine blk_drewN ?_ _ | refine blk_drew ?_ | refine blk_alloc ?_ _)); exact BK207.out) hb); have n8_ := Aside0.mk (blk_below (g := gb233) (o := .cells #[.int .i64 t226, .slice Ao141 t227.length co141, .bool t230] 26 (0, 0)) (by (with_reducible repeat (first | refine blk_drewN ?_ _ | refine blk_drew ?_ | refine blk_alloc ?_ _)); exact BK233.out) hb); have n9_ := Aside0.mk (below_step (by repeat (first | (with_reducible first | exact HB.out | apply below_alloc | apply pw_below_drewN | apply below_drew1 | refine below_set ?_ GE179.out | refine below_set ?_ GE193.out | refine below_set ?_ GE199.out | refine below_set ?_ GE207.out | refine below_set ?_ GE233.out) | exact HB.out)) hb); clear HO_194001; clear HO_200001; clear HO_208001; clear HO_234001; clear BK179; clear BK193; clear BK199; clear BK207; clear BK233; clear HB; have HO_194001 := n0_; have HO_200001 := n1_; have HO_208001 := n2_; have HO_234001 := n3_; have BK179 := n4_; have BK193 := n5_; have BK199 := n6_; have BK207 := n7_; have BK233 := n8_; have HB := n9_; clear n0_ n1_ n2_ n3_ n4_ n5_ n6_ n7_ n8_ n9_; (try clear hb); (try clear hb2); (try clear hk); (try clear hi)))
                                go_ret
                                exact ⟨by first | rfl | (simp [errW_none, errW_some] <;> rfl) | (simp [*, errW_none, errW_some] <;> rfl), by repeat (first | (with_reducible first | exact HB.out | apply below_alloc | apply pw_below_drewN | apply below_drew1 | refine below_set ?_ GE179.out | refine below_set ?_ GE193.out | refine below_set ?_ GE199.out | refine below_set ?_ GE207.out | refine below_set ?_ GE233.out) | exact HB.out)⟩
                              · rw [if_neg c184] at H
                                have c184b0 : (t235 == t218) = false := beq_eq_false_iff_ne.mpr c184
                                have c184b1 : (t235 != t218) = true := bne_iff_ne.mpr c184
                                obtain rfl := Option.some.inj H
                                have hnb191 := NB207_179.out
                                have hnc191 := NB179_207.out
                                have hnb192 := NB207_193.out
                                have hnc192 := NB193_207.out
                                have hnb193 := NB207_199.out
                                have hnc193 := NB199_207.out
                                have hnb194 := NB207_233.out
                                have hnc194 := NB233_207.out
                                have hcz195_0 : wc.cell? ⟨gb207, 0, none⟩ = some (.int .i64 t200) := (blk_cell BK207.out 0).trans rfl
                                have hcz195_1 : wc.cell? ⟨gb207, 1, none⟩ = some (.slice Ao36 t219.length co36) := (blk_cell BK207.out 1).trans rfl
                                have hcz195_2 : wc.cell? ⟨gb207, 2, none⟩ = some (.bool t204) := (blk_cell BK207.out 2).trans rfl
                                have hfz195_0 := blk_frozen BK207.out 0
                                have hfz195_1 := blk_frozen BK207.out 1
                                have hfz195_2 := blk_frozen BK207.out 2
                                go_wp2_with (first | ((with_reducible refine gate_callee (f := 21) rfl ?_); refine goesL_ (some 111) rfl rfl Try.func21 (by kernel_rfl) rfl #[.agg #[.int .i64 t200, .slice Ao36 t219.length co36, .bool t204], .int .i64 1] rfl (by (try simp only [List.map_toArray, List.map_cons, List.map_nil]); first | done | rfl | (simp only [List.length_drop, List.length_take]; rfl)) ?_; (with_reducible refine (laws_heldChan.calls kj120 t200 _ _ t219 t204 1 t235 _ ?side1 ?side2 A176.out).mono ?_); (case side1 => repeat (first | exact (Kd.Q_reads' HO_208001.out).2.2 | (with_reducible refine Kd.C_alloc ?_ _) | (with_reducible refine Kd.C_drewN ?_ _) | (with_reducible refine Kd.C_drew ?_))); (case side2 => exact (Kd.Q_reads' HO_208001.out).2.1); rintro e w196 ⟨rfl, hb⟩; refine ⟨_, rfl, ?_⟩; have n0_ := Aside0.mk (Kd.Q_below (by (with_reducible repeat (first | apply Kd.Q_alloc | apply Kd.Q_drewN | apply Kd.Q_drew)); exact HO_194001.out) hb); have n1_ := Aside0.mk (Kd.Q_below (by (with_reducible repeat (first | apply Kd.Q_alloc | apply Kd.Q_drewN | apply Kd.Q_drew)); exact HO_200001.out) hb); have n2_ := Aside0.mk (Kd.Q_below (by (with_reducible repeat (first | apply Kd.Q_alloc | apply Kd.Q_drewN | apply Kd.Q_drew)); exact HO_208001.out) hb); have n3_ := Aside0.mk (Kd.Q_below (by (with_reducible repeat (first | apply Kd.Q_alloc | apply Kd.Q_drewN | apply Kd.Q_drew)); exact HO_234001.out) hb); have n4_ := Aside0.mk (blk_below (g := gb179) (o := .cells #[.int .i64 a0_0, .slice A0_1 l0_1.length c0_1, .bool a0_2] 34 (0, 0)) (by (with_reducible repeat (first | refine blk_drewN ?_ _ | refine blk_drew ?_ | refine blk_alloc ?_ _)); exact BK179.out) hb); have n5_ := Aside0.mk (blk_below (g := gb193) (o := .cells #[.int .i64 t186, .slice Ao22 t187.length co22, .bool t190] 26 (0, 0)) (by (with_reducible repeat (first | refine blk_drewN ?_ _ | refine blk_drew ?_ | refine blk_alloc ?_ _)); exact BK193.out) hb); have n6_ := Aside0.mk (blk_below (g := gb199) (o := .cells #[.int .i64 t194, .slice Ao29 t216.length co29, .bool t198] 26 (0, 0)) (by (with_reducible repeat (first | refine blk_drewN ?_ _ | refine blk_drew ?_ | refine blk_alloc ?_ _)); exact BK199.out) hb); have n7_ := Aside0.mk (blk_below (g := gb207) (o := .cells #[.int .i64 t200, .slice Ao36 t219.length co36, .bool t204] 26 (0, 0)) (by (with_reducible repeat (first | refine blk_drewN ?_ _ | refine blk_drew ?_ | refine blk_alloc ?_ _)); exact BK207.out) hb); have n8_ := Aside0.mk (blk_below (g := gb233) (o := .cells #[.int .i64 t226, .slice Ao141 t227.length co141, .bool t230] 26 (0, 0)) (by (with_reducible repeat (first | refine blk_drewN ?_ _ | refine blk_drew ?_ | refine blk_alloc ?_ _)); exact BK233.out) hb); have n9_ := Aside0.mk (below_step (by repeat (first | (with_reducible first | exact HB.out | apply below_alloc | apply pw_below_drewN | apply below_drew1 | refine below_set ?_ GE179.out | refine below_set ?_ GE193.out | refine below_set ?_ GE199.out | refine below_set ?_ GE207.out | refine below_set ?_ GE233.out) | exact HB.out)) hb); clear HO_194001; clear HO_200001; clear HO_208001; clear HO_234001; clear BK179; clear BK193; clear BK199; clear BK207; clear BK233; clear HB; have HO_194001 := n0_; have HO_200001 := n1_; have HO_208001 := n2_; have HO_234001 := n3_; have BK179 := n4_; have BK193 := n5_; have BK199 := n6_; have BK207 := n7_; have BK233 := n8_; have HB := n9_; clear n0_ n1_ n2_ n3_ n4_ n5_ n6_ n7_ n8_ n9_; (try clear hb); (try clear hb2); (try clear hk); (try clear hi)))
                                go_ret
                                exact ⟨by first | rfl | (simp [errW_none, errW_some] <;> rfl) | (simp [*, errW_none, errW_some] <;> rfl), by repeat (first | (with_reducible first | exact HB.out | apply below_alloc | apply pw_below_drewN | apply below_drew1 | refine below_set ?_ GE179.out | refine below_set ?_ GE193.out | refine below_set ?_ GE199.out | refine below_set ?_ GE207.out | refine below_set ?_ GE233.out) | exact HB.out)⟩
                    · rw [if_neg c118] at H
                      have c118b0 : (t220 == t218) = false := beq_eq_false_iff_ne.mpr c118
                      have c118b1 : (t220 != t218) = true := bne_iff_ne.mpr c118
                      obtain rfl := Option.some.inj H
                      have hnb197 := NB207_179.out
                      have hnc197 := NB179_207.out
                      have hnb198 := NB207_193.out
                      have hnc198 := NB193_207.out
                      have hnb199 := NB207_199.out
                      have hnc199 := NB199_207.out
                      have hcz200_0 : wc.cell? ⟨gb207, 0, none⟩ = some (.int .i64 t200) := (blk_cell BK207.out 0).trans rfl
                      have hcz200_1 : wc.cell? ⟨gb207, 1, none⟩ = some (.slice Ao36 t201.length co36) := (blk_cell BK207.out 1).trans rfl
                      have hcz200_2 : wc.cell? ⟨gb207, 2, none⟩ = some (.bool t204) := (blk_cell BK207.out 2).trans rfl
                      have hfz200_0 := blk_frozen BK207.out 0
                      have hfz200_1 := blk_frozen BK207.out 1
                      have hfz200_2 := blk_frozen BK207.out 2
                      go_wp2_with (first | ((with_reducible refine gate_callee (f := 20) rfl ?_); refine goesL_ (some 79) rfl rfl Try.func20 (by kernel_rfl) rfl #[.agg #[.int .i64 t200, .slice Ao36 t201.length co36, .bool t204], .int .i64 1] rfl (by (try simp only [List.map_toArray, List.map_cons, List.map_nil]); first | done | rfl | (simp only [List.length_drop, List.length_take]; rfl)) ?_; (with_reducible refine (laws_markChan.callsQ kj68 t200 (fun k_ => some k_ = (.slice Ao36 t201.length co36 : Value).ownBlock) (.slice Ao36 t201.length co36) t201 t204 1 t218 t219 w _ ?side1 ?side2 A108.out).mono ?_); (case side1 => repeat (first | (with_reducible first | exact HB.out | apply below_alloc | apply pw_below_drewN | apply below_drew1 | refine below_set ?_ GE179.out | refine below_set ?_ GE193.out | refine below_set ?_ GE199.out | refine below_set ?_ GE207.out) | exact HB.out)); (case side2 => exact Kd.Q_tight rfl HO_208001.out); rintro e w201 ⟨rfl, hy0, hb, hkp⟩; refine ⟨_, rfl, ?_⟩; have n0_ := Aside0.mk (Kd.Q_mono (ok' := fun k_ => some k_ ≠ (.slice Ao29 t216.length co29 : Value).ownBlock ∧ some k_ ≠ (.slice Ao36 t201.length co36 : Value).ownBlock) (Kd.Q_keptB (HO_194001.out) hkp (fun k_ hk_ hs_ => (hk_.2) hs_)) (fun k_ hk_ => ⟨hk_.1.1, hk_.1.2⟩)); have n1_ := Aside0.mk (Kd.Q_mono (ok' := fun k_ => some k_ ≠ (.slice Ao22 t187.length co22 : Value).ownBlock ∧ some k_ ≠ (.slice Ao36 t201.length co36 : Value).ownBlock) (Kd.Q_keptB (HO_200001.out) hkp (fun k_ hk_ hs_ => (hk_.2) hs_)) (fun k_ hk_ => ⟨hk_.1.1, hk_.1.2⟩)); have n2_ := Aside0.mk (Queue.Q_reok rfl hy0 (fun k_ e_ => HO_208001.out.1 k_ e_)); have n3_ := Aside0.mk (blk_kept (by (with_reducible repeat (first | refine blk_drewN ?_ _ | refine blk_drew ?_ | refine blk_alloc ?_ _)); exact BK179.out) hkp (fun hs_ => (fun e_ => (Kd.Q_ne HO_208001.out BK179.out (by decide)) e_) hs_)); have n4_ := Aside0.mk (blk_kept (by (with_reducible repeat (first | refine blk_drewN ?_ _ | refine blk_drew ?_ | refine blk_alloc ?_ _)); exact BK193.out) hkp (fun hs_ => (fun e_ => (Kd.Q_ne HO_208001.out BK193.out (by decide)) e_) hs_)); have n5_ := Aside0.mk (blk_kept (by (with_reducible repeat (first | refine blk_drewN ?_ _ | refine blk_drew ?_ | refine blk_alloc ?_ _)); exact BK199.out) hkp (fun hs_ => (fun e_ => (Kd.Q_ne HO_208001.out BK199.out (by decide)) e_) hs_)); have n6_ := Aside0.mk (blk_kept (by (with_reducible repeat (first | refine blk_drewN ?_ _ | refine blk_drew ?_ | refine blk_alloc ?_ _)); exact BK207.out) hkp (fun hs_ => (fun e_ => (Kd.Q_ne HO_208001.out BK207.out (by decide)) e_) hs_)); have n7_ := Aside0.mk (hb); clear HO_194001; clear HO_200001; clear HO_208001; clear BK179; clear BK193; clear BK199; clear BK207; clear HB; have HO_194001 := n0_; have HO_200001 := n1_; have HO_208001 := n2_; have BK179 := n3_; have BK193 := n4_; have BK199 := n5_; have BK207 := n6_; have HB := n7_; clear n0_ n1_ n2_ n3_ n4_ n5_ n6_ n7_; (try clear hb); (try clear hkp); (try clear hy0); have hcz202_0 : w201.cell? ⟨gb207, 0, none⟩ = some (.int .i64 t200) := (blk_cell BK207.out 0).trans rfl; have hcz202_1 : w201.cell? ⟨gb207, 1, none⟩ = some (.slice Ao36 t201.length co36) := (blk_cell BK207.out 1).trans rfl; have hcz202_2 : w201.cell? ⟨gb207, 2, none⟩ = some (.bool t204) := (blk_cell BK207.out 2).trans rfl; have hfz202_0 := blk_frozen BK207.out 0; have hfz202_1 := blk_frozen BK207.out 1; have hfz202_2 := blk_frozen BK207.out 2) | ((with_reducible refine gate_callee (f := 21) rfl ?_); refine goesL_ (some 82) rfl rfl Try.func21 (by kernel_rfl) rfl #[.agg #[.int .i64 t200, .slice Ao36 t219.length co36, .bool t204], .int .i64 1] rfl (by (try simp only [List.map_toArray, List.map_cons, List.map_nil]); first | done | (rw [show t219.length = t201.length from (Kd.Q_reads' HO_208001.out).1.symm] <;> rfl) | rfl | (simp only [List.length_drop, List.length_take]; rfl)) ?_; (with_reducible refine (laws_heldChan.calls kj68 t200 _ _ t219 t204 1 t220 _ ?side1 ?side2 A109.out).mono ?_); (case side1 => repeat (first | exact (Kd.Q_reads' HO_208001.out).2.2 | (with_reducible refine Kd.C_alloc ?_ _) | (with_reducible refine Kd.C_drewN ?_ _) | (with_reducible refine Kd.C_drew ?_))); (case side2 => rw [show t219.length = t201.length from (Kd.Q_reads' HO_208001.out).1.symm]; exact (Kd.Q_reads' HO_208001.out).2.1); rintro e w203 ⟨rfl, hb⟩; refine ⟨_, rfl, ?_⟩; have n0_ := Aside0.mk (Kd.Q_below (by (with_reducible repeat (first | apply Kd.Q_alloc | apply Kd.Q_drewN | apply Kd.Q_drew)); exact HO_194001.out) hb); have n1_ := Aside0.mk (Kd.Q_below (by (with_reducible repeat (first | apply Kd.Q_alloc | apply Kd.Q_drewN | apply Kd.Q_drew)); exact HO_200001.out) hb); have n2_ := Aside0.mk (Kd.Q_below (by (with_reducible repeat (first | apply Kd.Q_alloc | apply Kd.Q_drewN | apply Kd.Q_drew)); exact HO_208001.out) hb); have n3_ := Aside0.mk (blk_below (g := gb179) (o := .cells #[.int .i64 a0_0, .slice A0_1 l0_1.length c0_1, .bool a0_2] 34 (0, 0)) (by (with_reducible repeat (first | refine blk_drewN ?_ _ | refine blk_drew ?_ | refine blk_alloc ?_ _)); exact BK179.out) hb); have n4_ := Aside0.mk (blk_below (g := gb193) (o := .cells #[.int .i64 t186, .slice Ao22 t187.length co22, .bool t190] 26 (0, 0)) (by (with_reducible repeat (first | refine blk_drewN ?_ _ | refine blk_drew ?_ | refine blk_alloc ?_ _)); exact BK193.out) hb); have n5_ := Aside0.mk (blk_below (g := gb199) (o := .cells #[.int .i64 t194, .slice Ao29 t216.length co29, .bool t198] 26 (0, 0)) (by (with_reducible repeat (first | refine blk_drewN ?_ _ | refine blk_drew ?_ | refine blk_alloc ?_ _)); exact BK199.out) hb); have n6_ := Aside0.mk (blk_below (g := gb207) (o := .cells #[.int .i64 t200, .slice Ao36 t201.length co36, .bool t204] 26 (0, 0)) (by (with_reducible repeat (first | refine blk_drewN ?_ _ | refine blk_drew ?_ | refine blk_alloc ?_ _)); exact BK207.out) hb); have n7_ := Aside0.mk (below_step (by repeat (first | (with_reducible first | exact HB.out | apply below_alloc | apply pw_below_drewN | apply below_drew1 | refine below_set ?_ GE179.out | refine below_set ?_ GE193.out | refine below_set ?_ GE199.out | refine below_set ?_ GE207.out) | exact HB.out)) hb); clear HO_194001; clear HO_200001; clear HO_208001; clear BK179; clear BK193; clear BK199; clear BK207; clear HB; have HO_194001 := n0_; have HO_200001 := n1_; have HO_208001 := n2_; have BK179 := n3_; have BK193 := n4_; have BK199 := n5_; have BK207 := n6_; have HB := n7_; clear n0_ n1_ n2_ n3_ n4_ n5_ n6_ n7_; (try clear hb); (try clear hb2); (try clear hk); (try clear hi)))
                      go_ret
                      exact ⟨by first | rfl | (simp [errW_none, errW_some] <;> rfl) | (simp [*, errW_none, errW_some] <;> rfl), by repeat (first | (with_reducible first | exact HB.out | apply below_alloc | apply pw_below_drewN | apply below_drew1 | refine below_set ?_ GE179.out | refine below_set ?_ GE193.out | refine below_set ?_ GE199.out | refine below_set ?_ GE207.out) | exact HB.out)⟩
          · replace c67 := Bool.eq_false_iff.mpr c67
            subst c67
            have H1 : (some false) = some r := by rw [if_neg (show ¬ (false = true) by decide)] at H; exact H
            clear H
            have H := H1
            clear H1
            obtain rfl := Option.some.inj H
            try go_wp2
            have n0_ := Aside0.mk (Kd.Q_drew HO_194001.out)
            have n1_ := Aside0.mk (Kd.Q_drew HO_200001.out)
            have n2_ := Aside0.mk (Kd.Q_drew HO_208001.out)
            have n3_ := Aside0.mk (blk_drew BK179.out)
            have n4_ := Aside0.mk (blk_drew BK193.out)
            have n5_ := Aside0.mk (blk_drew BK199.out)
            have n6_ := Aside0.mk (blk_drew BK207.out)
            have n7_ := Aside0.mk (below_drew1 HB.out)
            clear HO_194001
            clear HO_200001
            clear HO_208001
            clear BK179
            clear BK193
            clear BK199
            clear BK207
            clear HB
            have HO_194001 := n0_
            have HO_200001 := n1_
            have HO_208001 := n2_
            have BK179 := n3_
            have BK193 := n4_
            have BK199 := n5_
            have BK207 := n6_
            have HB := n7_
            clear n0_ n1_ n2_ n3_ n4_ n5_ n6_ n7_
            refine start_ (n := 5) (S := fun w' => w'.cell? ⟨gb199, 0, none⟩ = some (.int .i64 t194) ∧ w'.cell? ⟨gb199, 1, none⟩ = some (.slice Ao29 t195.length co29) ∧ w'.cell? ⟨gb199, 2, none⟩ = some (.bool t198) ∧ w'.cell? ⟨gb179, 0, none⟩ = some (.int .i64 a0_0) ∧ w'.cell? ⟨gb179, 1, none⟩ = some (.slice A0_1 l0_1.length c0_1) ∧ w'.cell? ⟨gb179, 2, none⟩ = some (.bool a0_2)) (ds := []) #[false, false, false, false, false] (by kernel_rfl) rfl rfl ⟨(blk_cell BK199.out 0).trans rfl, (blk_cell BK199.out 1).trans rfl, (blk_cell BK199.out 2).trans rfl, (blk_cell BK179.out 0).trans rfl, (blk_cell BK179.out 1).trans rfl, (blk_cell BK179.out 2).trans rfl⟩ (fun hHeld => ?_)
            generalize wc.drew = w204 at HO_194001 HO_200001 HO_208001 BK179 BK193 BK199 BK207 HB hHeld ⊢
            refine take_ (i := 0) (N := some 51) (v := ?_) (a' := ?_) #[true, false, false, false, false] rfl rfl (by kernel_rfl) (fun _ _ _ h => h) (Or.inl ⟨by rfl, ?_⟩) hHeld ?_ ?_
            rotate_left
            · rintro w' ⟨s0, s1, s2, s3, s4, s5⟩
              go_simp
              with_reducible rfl
            rotate_left
            · simp only [Act.put, List.setIfInBounds_toArray, List.set_cons_zero, List.set_cons_succ, i64_w, i32_w]
              rfl
            refine take_ (i := 1) (N := some 52) (v := ?_) (a' := ?_) #[true, true, false, false, false] rfl rfl (by kernel_rfl) (fun _ _ _ h => h) (Or.inl ⟨by rfl, ?_⟩) hHeld ?_ ?_
            rotate_left
            · rintro w' ⟨s0, s1, s2, s3, s4, s5⟩
              go_simp
              with_reducible rfl
            rotate_left
            · simp only [Act.put, List.setIfInBounds_toArray, List.set_cons_zero, List.set_cons_succ, i64_w, i32_w]
              rfl
            refine one_ (i := 2) (N := some 53) #[true, true, true, false, false] rfl rfl (by kernel_rfl) (by decide) (fun K hK => ?_)
            refine goes_ Try.func18 (by kernel_rfl) rfl #[.agg #[.int .i64 a0_0, .slice A0_1 l0_1.length c0_1, .bool a0_2]] (by rfl) rfl rfl (by (try simp only [List.map_toArray, List.map_cons, List.map_nil]); first | done | rfl | (simp only [List.length_drop, List.length_take]; rfl)) ?_
            with_reducible refine (laws_toChan.calls kj10 a0_0 _ _ l0_1 a0_2 t209 t210 t213 _ ?side1 ?side2 A65.out).mono ?_
            (case side1 => repeat (first | exact (Kd.C_below HR0_1.out HB.out) | (with_reducible refine Kd.C_alloc ?_ _) | (with_reducible refine Kd.C_drewN ?_ _) | (with_reducible refine Kd.C_drew ?_)))
            (case side2 => exact HC0_1.out)
            rintro e w205 ⟨v211, rfl, ho0, hb⟩
            refine ⟨_, rfl, ?_⟩
            have n0_ := Aside0.mk (Kd.Q_elder' (by (with_reducible repeat (first | apply Kd.Q_alloc | apply Kd.Q_drewN | apply Kd.Q_drew)); exact HO_194001.out) (Kd.R_base ho0) hb)
            have n1_ := Aside0.mk (Kd.Q_elder' (by (with_reducible repeat (first | apply Kd.Q_alloc | apply Kd.Q_drewN | apply Kd.Q_drew)); exact HO_200001.out) (Kd.R_base ho0) hb)
            have n2_ := Aside0.mk (Kd.Q_elder' (by (with_reducible repeat (first | apply Kd.Q_alloc | apply Kd.Q_drewN | apply Kd.Q_drew)); exact HO_208001.out) (Kd.R_base ho0) hb)
            have n3_ := Aside0.mk (Kd.R_lower (Kd.R_new' (Kd.R_new' (Kd.R_new' ho0 (Kd.Q_lt (by (with_reducible repeat (first | apply Kd.Q_alloc | apply Kd.Q_drewN | apply Kd.Q_drew)); exact HO_194001.out))) (Kd.Q_lt (by (with_reducible repeat (first | apply Kd.Q_alloc | apply Kd.Q_drewN | apply Kd.Q_drew)); exact HO_200001.out))) (Kd.Q_lt (by (with_reducible repeat (first | apply Kd.Q_alloc | apply Kd.Q_drewN | apply Kd.Q_drew)); exact HO_208001.out))) (below_size (by repeat (first | (with_reducible first | exact HB.out | apply below_alloc | apply pw_below_drewN | apply below_drew1 | refine below_set ?_ GE179.out | refine below_set ?_ GE193.out | refine below_set ?_ GE199.out | refine below_set ?_ GE207.out) | exact HB.out))))
            have n4_ := Aside0.mk (blk_below (g := gb179) (o := .cells #[.int .i64 a0_0, .slice A0_1 l0_1.length c0_1, .bool a0_2] 34 (0, 0)) (by (with_reducible repeat (first | refine blk_drewN ?_ _ | refine blk_drew ?_ | refine blk_alloc ?_ _)); exact BK179.out) hb)
            have n5_ := Aside0.mk (blk_below (g := gb193) (o := .cells #[.int .i64 t186, .slice Ao22 t187.length co22, .bool t190] 26 (0, 0)) (by (with_reducible repeat (first | refine blk_drewN ?_ _ | refine blk_drew ?_ | refine blk_alloc ?_ _)); exact BK193.out) hb)
            have n6_ := Aside0.mk (blk_below (g := gb199) (o := .cells #[.int .i64 t194, .slice Ao29 t195.length co29, .bool t198] 26 (0, 0)) (by (with_reducible repeat (first | refine blk_drewN ?_ _ | refine blk_drew ?_ | refine blk_alloc ?_ _)); exact BK199.out) hb)
            have n7_ := Aside0.mk (blk_below (g := gb207) (o := .cells #[.int .i64 t200, .slice Ao36 t201.length co36, .bool t204] 26 (0, 0)) (by (with_reducible repeat (first | refine blk_drewN ?_ _ | refine blk_drew ?_ | refine blk_alloc ?_ _)); exact BK207.out) hb)
            have n8_ := Aside0.mk (below_step (by repeat (first | (with_reducible first | exact HB.out | apply below_alloc | apply pw_below_drewN | apply below_drew1 | refine below_set ?_ GE179.out | refine below_set ?_ GE193.out | refine below_set ?_ GE199.out | refine below_set ?_ GE207.out) | exact HB.out)) hb)
            clear HO_194001
            clear HO_200001
            clear HO_208001
            clear BK179
            clear BK193
            clear BK199
            clear BK207
            clear HB
            have HO_194001 := n0_
            have HO_200001 := n1_
            have HO_208001 := n2_
            have HO212 := n3_
            have BK179 := n4_
            have BK193 := n5_
            have BK199 := n6_
            have BK207 := n7_
            have HB := n8_
            clear n0_ n1_ n2_ n3_ n4_ n5_ n6_ n7_ n8_
            (try clear hb)
            (try clear hb2)
            (try clear hk)
            (try clear hi)
            (try clear ho0)
            obtain ⟨Ao206, co206, eo206⟩ := Kd.R_slice HO212.out
            (first | subst eo206 | (injection eo206 with f1_ f2_ f3_; have f4_ := f1_.symm; have f5_ := f3_.symm; clear f1_ f2_ f3_; subst f4_; subst f5_))
            refine hK.out _ _ ⟨(blk_cell BK199.out 0).trans rfl, (blk_cell BK199.out 1).trans rfl, (blk_cell BK199.out 2).trans rfl, (blk_cell BK179.out 0).trans rfl, (blk_cell BK179.out 1).trans rfl, (blk_cell BK179.out 2).trans rfl⟩ (fun hHeld => ?_)
            clear hK K
            refine norm_ (a' := ?_) ?_ ?_
            rotate_left
            · show Act.put _ (some 53) _ = _
              simp only [Act.put, List.setIfInBounds_toArray, List.set_cons_zero, List.set_cons_succ, i64_w, i32_w]
              rfl
            refine one_ (i := 3) (N := some 54) #[true, true, true, true, false] rfl rfl (by kernel_rfl) (by decide) (fun K hK => ?_)
            refine goes_ Try.func19 (by kernel_rfl) rfl #[.agg #[.int .i64 t194, .slice Ao29 t195.length co29, .bool t198], .agg #[.int .i64 t209, .slice Ao206 t210.length co206, .bool t213]] (by rfl) rfl rfl (by (try simp only [List.map_toArray, List.map_cons, List.map_nil]); first | done | rfl | (simp only [List.length_drop, List.length_take]; rfl)) ?_
            with_reducible refine (laws_eqChan.calls kj10 t194 _ _ t195 t198 t209 _ _ t210 t213 false _ ?side1 ?side2 ?side3 ?side4 A66.out).mono ?_
            (case side1 => repeat (first | exact (Kd.Q_reads' HO_200001.out).2.2 | (with_reducible refine Kd.C_alloc ?_ _) | (with_reducible refine Kd.C_drewN ?_ _) | (with_reducible refine Kd.C_drew ?_)))
            (case side2 => exact (Kd.Q_reads' HO_200001.out).2.1)
            (case side3 => repeat (first | exact (Kd.R_reads' HO212.out).2.2 | (with_reducible refine Kd.C_alloc ?_ _) | (with_reducible refine Kd.C_drewN ?_ _) | (with_reducible refine Kd.C_drew ?_)))
            (case side4 => exact (Kd.R_reads' HO212.out).2.1)
            rintro e w207 ⟨rfl, hb⟩
            refine ⟨_, rfl, ?_⟩
            have n0_ := Aside0.mk (Kd.Q_below (by (with_reducible repeat (first | apply Kd.Q_alloc | apply Kd.Q_drewN | apply Kd.Q_drew)); exact HO_194001.out) hb)
            have n1_ := Aside0.mk (Kd.Q_below (by (with_reducible repeat (first | apply Kd.Q_alloc | apply Kd.Q_drewN | apply Kd.Q_drew)); exact HO_200001.out) hb)
            have n2_ := Aside0.mk (Kd.Q_below (by (with_reducible repeat (first | apply Kd.Q_alloc | apply Kd.Q_drewN | apply Kd.Q_drew)); exact HO_208001.out) hb)
            have n3_ := Aside0.mk (Kd.R_below (by (with_reducible repeat (first | apply Kd.R_alloc | apply Kd.R_drewN | apply Kd.R_drew)); exact HO212.out) hb)
            have n4_ := Aside0.mk (blk_below (g := gb179) (o := .cells #[.int .i64 a0_0, .slice A0_1 l0_1.length c0_1, .bool a0_2] 34 (0, 0)) (by (with_reducible repeat (first | refine blk_drewN ?_ _ | refine blk_drew ?_ | refine blk_alloc ?_ _)); exact BK179.out) hb)
            have n5_ := Aside0.mk (blk_below (g := gb193) (o := .cells #[.int .i64 t186, .slice Ao22 t187.length co22, .bool t190] 26 (0, 0)) (by (with_reducible repeat (first | refine blk_drewN ?_ _ | refine blk_drew ?_ | refine blk_alloc ?_ _)); exact BK193.out) hb)
            have n6_ := Aside0.mk (blk_below (g := gb199) (o := .cells #[.int .i64 t194, .slice Ao29 t195.length co29, .bool t198] 26 (0, 0)) (by (with_reducible repeat (first | refine blk_drewN ?_ _ | refine blk_drew ?_ | refine blk_alloc ?_ _)); exact BK199.out) hb)
            have n7_ := Aside0.mk (blk_below (g := gb207) (o := .cells #[.int .i64 t200, .slice Ao36 t201.length co36, .bool t204] 26 (0, 0)) (by (with_reducible repeat (first | refine blk_drewN ?_ _ | refine blk_drew ?_ | refine blk_alloc ?_ _)); exact BK207.out) hb)
            have n8_ := Aside0.mk (below_step (by repeat (first | (with_reducible first | exact HB.out | apply below_alloc | apply pw_below_drewN | apply below_drew1 | refine below_set ?_ GE179.out | refine below_set ?_ GE193.out | refine below_set ?_ GE199.out | refine below_set ?_ GE207.out) | exact HB.out)) hb)
            clear HO_194001
            clear HO_200001
            clear HO_208001
            clear HO212
            clear BK179
            clear BK193
            clear BK199
            clear BK207
            clear HB
            have HO_194001 := n0_
            have HO_200001 := n1_
            have HO_208001 := n2_
            have HO212 := n3_
            have BK179 := n4_
            have BK193 := n5_
            have BK199 := n6_
            have BK207 := n7_
            have HB := n8_
            clear n0_ n1_ n2_ n3_ n4_ n5_ n6_ n7_ n8_
            (try clear hb)
            (try clear hb2)
            (try clear hk)
            (try clear hi)
            refine hK.out _ _ ⟨(blk_cell BK199.out 0).trans rfl, (blk_cell BK199.out 1).trans rfl, (blk_cell BK199.out 2).trans rfl, (blk_cell BK179.out 0).trans rfl, (blk_cell BK179.out 1).trans rfl, (blk_cell BK179.out 2).trans rfl⟩ (fun hHeld => ?_)
            clear hK K
            refine norm_ (a' := ?_) ?_ ?_
            rotate_left
            · show Act.put _ (some 54) _ = _
              simp only [Act.put, List.setIfInBounds_toArray, List.set_cons_zero, List.set_cons_succ, i64_w, i32_w]
              rfl
            refine pure_ (i := 4) (N := some 55) (v := ?_) (a' := ?_) #[true, true, true, true, true] rfl rfl (by kernel_rfl) (fun _ _ _ h => h) (Or.inl ⟨by rfl, ?_⟩) ?_ ?_
            rotate_left
            · intro w'
              go_simp
              with_reducible rfl
            rotate_left
            · simp only [Act.put, List.setIfInBounds_toArray, List.set_cons_zero, List.set_cons_succ, i64_w, i32_w]
              rfl
            refine done_ (by kernel_rfl) ?_
            try go_wp2
            go_ret
            exact ⟨by first | rfl | (simp [errW_none, errW_some] <;> rfl) | (simp [*, errW_none, errW_some] <;> rfl), by repeat (first | (with_reducible first | exact HB.out | apply below_alloc | apply pw_below_drewN | apply below_drew1 | refine below_set ?_ GE179.out | refine below_set ?_ GE193.out | refine below_set ?_ GE199.out | refine below_set ?_ GE207.out) | exact HB.out)⟩

end Go.Proofs.Ytbonbflbgopjlaa.PFnExactChanTake
