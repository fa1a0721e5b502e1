/- A part of the proof that the law FnExactMachineNew holds for every input. -/
import Derived.Test.YtobachfngmpeiaaZFnExactMachineNewa16
import Derived.Test.YtobachfngmpeiaaZFnExactMachineNewa20
import Derived.Test.YtobachfngmpeiaaZFnExactMachineNews
namespace Go.Proofs.Ytobachfngmpeiaa.PFnExactMachineNew
open Go.RowKit Go.Proofs.YtobachfngmpeiaaW.PrintWords Go.Proofs.YtobachfngmpeiaaW.PrintLast Go.Proofs.YtobachfngmpeiaaW.PrintMore
attribute [local go_sem] max2_int min2_int max_two min_two max_three min_three max_four min_four   -- for this text's walks alone
set_option linter.unusedVariables false
set_option linter.unusedSimpArgs false
def spec_MachineNew.l0 : Nat → List (List (S175)) → Int → List (List (S175)) → List (S123) → List (List (S170)) → Option ((List (List (S175))) × (List (S123)) × (List (List (S170))) × (List (S35)) × Bool)
  | 0, _, _, _, _, _ => none
  | k + 1, x0, x5, x170000, x170001, x170002 => if x5 < (x0.length : Int) then (if 8 ≤ 35184372088832 then (if 24 ≤ 35184372088832 then (if x170001.length < 2199023255552 then (spec_MachineNew.l0 k x0 (wrap64 (x5 + 1)) x170000 (x170001 ++ [(⟨0, (List.replicate 8 0), (List.replicate 24 0), 0⟩ : S123)]) x170002) else (none)) else (none)) else (none)) else ((spec_MachineOk.f k x170000 x170001 x170002 ([] : List (S35))).bind fun t179 => (if t179 = true then (some (x170000, x170001, x170002, ([] : List (S35)), true)) else (some (([] : List (List (S175))), ([] : List (S123)), ([] : List (List (S170))), ([] : List (S35)), false))))
def spec_MachineNew.f (k : Nat) (l0 : List (List (S175))) : Option ((List (List (S175))) × (List (S123)) × (List (List (S170))) × (List (S35)) × Bool) := (spec_l8Codes.f k l0).bind fun t163 => ((spec_MemoryNew.f k).bind fun t166 => (spec_MachineNew.l0 k l0 0 t163 ([] : List (S123)) t166))
def spec_MachineNew.T5 : Bool × List (List Nat × List Nat) := (true, [([], []), ([0], [0]), ([], []), ([], []), ([2, 3], [2, 3]), ([4], [4]), ([1, 5], [1, 5]), ([0, 1, 2, 3, 4, 5, 6], []), ([7, 6, 6, 0, 1, 2, 3, 4, 5, 6], [6, 7])])
def spec_MachineNew.B5 : List Nat := [0, 1, 0, 0, 12, 28, 63, 127, 255]
theorem spec_MachineNew.tab5 : rtab .any (opsOf Try.f25 5) = spec_MachineNew.T5 := by kernel_rfl
theorem spec_MachineNew.bits5 : waitsOk spec_MachineNew.T5.2 spec_MachineNew.B5 = true := by kernel_rfl
set_option maxHeartbeats 8000000 in
set_option maxRecDepth 100000 in
theorem spec_MachineNew.calls (k : Nat) (A0 : Option Addr) (c0 : Nat) (l0 : List (List (S175))) (r1 : List (List (S175))) (r2 : List (S123)) (r3 : List (List (S170))) (r4 : List (S35)) (r5 : Bool) (w : World) (hr0 : Kd.C (Kd.slice 175 k175) w A0 l0.length l0) (hc0 : l0.length ≤ c0) (h : spec_MachineNew.f k l0 = some (r1, r2, r3, r4, r5)) :
  Calls Try.prog 25 #[.slice A0 l0.length c0] w fun e w' => ∃ v0_ v1_ v2_ v3_ : Value, e = .returned (.tuple #[.agg #[v0_, v1_, v2_, v3_], .bool r5]) ∧ Kd.N (Kd.slice 175 k175) 125 w' w.heap.size (fun k_ => (w.heap.size ≤ k_) ∧ some k_ ≠ (v1_ : Value).ownBlock ∧ some k_ ≠ (v2_ : Value).ownBlock ∧ some k_ ≠ (v3_ : Value).ownBlock) v0_ r1 ∧ Kd.N k123 123 w' w.heap.size (fun k_ => (w.heap.size ≤ k_) ∧ some k_ ≠ (v0_ : Value).ownBlock ∧ some k_ ≠ (v2_ : Value).ownBlock ∧ some k_ ≠ (v3_ : Value).ownBlock) v1_ r2 ∧ Kd.N (Kd.slice 170 k170) 171 w' w.heap.size (fun k_ => (w.heap.size ≤ k_) ∧ some k_ ≠ (v0_ : Value).ownBlock ∧ some k_ ≠ (v1_ : Value).ownBlock ∧ some k_ ≠ (v3_ : Value).ownBlock) v2_ r3 ∧ Kd.R k35 35 w' w.heap.size (fun k_ => (w.heap.size ≤ k_)) v3_ r4 ∧ Below w.heap.size w w' := by
 have hu59 := Try.underlying59
 have hu123 := Try.underlying123
 have HR0 := aM_ hr0
 have HC0 := aM_ hc0
 clear hr0 hc0
 have HB := aM_ (Below.refl w.heap.size w)
 have H : ((spec_l8Codes.f k l0).bind fun t163 => ((spec_MemoryNew.f k).bind fun t166 => (spec_MachineNew.l0 k l0 0 t163 ([] : List (S123)) t166))) = some (r1, r2, r3, r4, r5) := h
 clear h
 replace H := Option.bind_eq_some_iff.mp H
 obtain ⟨t163, A20, H⟩ := H
 replace H : ((spec_MemoryNew.f k).bind fun t166 => (spec_MachineNew.l0 k l0 0 t163 ([] : List (S123)) t166)) = some (r1, r2, r3, r4, r5) := H
 have A2 := aM_ A20
 clear A20
 replace H := Option.bind_eq_some_iff.mp H
 obtain ⟨t166, A30, H⟩ := H
 replace H : (spec_MachineNew.l0 k l0 0 t163 ([] : List (S123)) t166) = some (r1, r2, r3, r4, r5) := H
 have A3 := aM_ A30
 clear A30
 have H' := aM_ H
 clear H
 go_enter Try.func25, Try.ntmps25
 go_wp2_with (first | ((with_reducible refine gate_dst (N := 2) rfl ?_); refine bX_ 2 (cs := #[.slice none 0 0, .slice none 0 0, .slice none 0 0, .slice none 0 0]) (t := 59) ?_; intro gb162 hg w4 hbox hb; have BK162 := aM_ (hbox); have GE162 := aM_ (sZ_ hg HB.out); replace HB := aM_ (sT_ HB.out hb); clear hb hbox hg) | ((with_reducible refine gate_callee (f := 76) rfl ?_); refine gL_ (some 7) Try.func76 #[.slice A0 l0.length c0] ?_; (with_reducible refine (spec_l8Codes.calls k _ _ l0 t163 _ ?side1 ?side2 A2.out).mono ?_); (case side1 => exact cS_ (Kd.C_below HR0.out HB.out)); (case side2 => exact HC0.out); rintro e w5 ⟨v164, rfl, ho0, hb⟩; refine ⟨_, rfl, ?_⟩; have HO165 := aM_ (Kd.N_lower (Kd.N_mono (ok' := fun k_ => (w.heap.size ≤ k_) ∧ k_ ≠ gb162) (Kd.S_N (Kd.S_bound ho0)) (fun k_ hk_ => ⟨(Nat.le_trans (below_size (gB_ HB.out)) hk_.2.1), (Kd.freshB (g := gb162) (o := .cells #[.slice none 0 0, .slice none 0 0, .slice none 0 0, .slice none 0 0] 59 (0, 0)) (by (with_reducible repeat (first | refine bN_ ?_ _ | refine bD_ ?_ | refine bA_ ?_ _)); exact BK162.out) k_ hk_.2.1)⟩)) (below_size (gB_ HB.out))); replace BK162 := aM_ (nB_ BK162.out hb); replace HB := aM_ (sT_ HB.out hb); (try clear ho0)) | ((with_reducible refine gate_callee (f := 77) rfl ?_); refine gL_ (some 8) Try.func77 #[] ?_; (with_reducible refine (spec_MemoryNew.calls k  t166 _ A3.out).mono ?_); rintro e w6 ⟨v167, rfl, ho0, hb⟩; refine ⟨_, rfl, ?_⟩; have HO168 := aM_ (Kd.N_lower (Kd.N_mono (ok' := fun k_ => (w.heap.size ≤ k_) ∧ some k_ ≠ (v164 : Value).ownBlock ∧ k_ ≠ gb162) ho0 (fun k_ hk_ => ⟨(Nat.le_trans (below_size (gB_ HB.out)) hk_), (Kd.fresh' (Kd.N_lt (by (with_reducible repeat (first | apply Kd.N_alloc | apply Kd.N_drewN | apply Kd.N_drew)); exact HO165.out)) k_ hk_), (Kd.freshB (g := gb162) (o := .cells #[.slice none 0 0, .slice none 0 0, .slice none 0 0, .slice none 0 0] 59 (0, 0)) (by (with_reducible repeat (first | refine bN_ ?_ _ | refine bD_ ?_ | refine bA_ ?_ _)); exact BK162.out) k_ hk_)⟩)) (below_size (gB_ HB.out))); replace HO165 := aM_ (Kd.N_elder' (by (with_reducible repeat (first | apply Kd.N_alloc | apply Kd.N_drewN | apply Kd.N_drew)); exact HO165.out) (Kd.N_base ho0) hb); replace BK162 := aM_ (nB_ BK162.out hb); replace HB := aM_ (sT_ HB.out hb); (try clear ho0); obtain ⟨Ao7, co7, eo7⟩ := Kd.N_slice HO168.out; subst eo7; obtain ⟨Ao8, co8, eo8⟩ := Kd.N_slice HO165.out; subst eo8) | ((with_reducible refine gate_dst (N := 4) rfl ?_); refine bX_ 4 (cs := #[.slice none 0 0, .slice none 0 0, .slice none 0 0, .slice none 0 0]) (t := 59) ?_; intro gb169 hg w9 hbox hb; have BK169 := aM_ (hbox); have GE169 := aM_ (sZ_ hg HB.out); have NB162_169 := aM_ (nL_ hg BK162.out); have NB169_162 := aM_ (nG_ hg BK162.out); replace HO165 := aM_ (Kd.N_below (Kd.N_elderB (by (with_reducible repeat (first | apply Kd.N_alloc | apply Kd.N_drewN | apply Kd.N_drew)); exact HO165.out) gb169 (Nat.le_of_eq hg.symm)) hb); replace HO168 := aM_ (Kd.N_below (Kd.N_elderB (by (with_reducible repeat (first | apply Kd.N_alloc | apply Kd.N_drewN | apply Kd.N_drew)); exact HO168.out) gb169 (Nat.le_of_eq hg.symm)) hb); replace BK162 := aM_ (nB_ BK162.out hb); replace HB := aM_ (sT_ HB.out hb); clear hb hbox hg; have hnb10 := NB169_162.out; have hnc10 := NB162_169.out; have z_11 := bR4_ BK169.out))
 go_loopg [5] k (fun kq v5 w' => ∃ (x5_1 : Int) (x1701_1 : List (S123)) (u1701 : Value), v5 = .int .i64 x5_1 ∧ Aside0 (spec_MachineNew.l0 kq l0 x5_1 t163 x1701_1 t166 = some (r1, r2, r3, r4, r5)) ∧ Aside0 (kq ≤ k) ∧ Aside0 (Kd.N (Kd.slice 175 k175) 125 w' w.heap.size (fun k_ => (w.heap.size ≤ k_) ∧ some k_ ≠ (u1701 : Value).ownBlock ∧ some k_ ≠ ((.slice Ao7 t166.length co7) : Value).ownBlock ∧ k_ ≠ gb162 ∧ k_ ≠ gb169) (.slice Ao8 t163.length co8) t163) ∧ Aside0 (Kd.N k123 123 w' w.heap.size (fun k_ => (w.heap.size ≤ k_) ∧ some k_ ≠ ((.slice Ao8 t163.length co8) : Value).ownBlock ∧ some k_ ≠ ((.slice Ao7 t166.length co7) : Value).ownBlock ∧ k_ ≠ gb162 ∧ k_ ≠ gb169) u1701 x1701_1) ∧ Aside0 (Kd.N (Kd.slice 170 k170) 171 w' w.heap.size (fun k_ => (w.heap.size ≤ k_) ∧ some k_ ≠ ((.slice Ao8 t163.length co8) : Value).ownBlock ∧ some k_ ≠ (u1701 : Value).ownBlock ∧ k_ ≠ gb162 ∧ k_ ≠ gb169) (.slice Ao7 t166.length co7) t166) ∧ Aside0 (w'.heap[gb162]? = some (.cells #[(.slice none 0 0), (.slice none 0 0), (.slice none 0 0), (.slice none 0 0)] 59 (0, 0))) ∧ Aside0 (w'.heap[gb169]? = some (.cells #[(.slice Ao8 t163.length co8), u1701, (.slice Ao7 t166.length co7), (.slice none 0 0)] 59 (0, 0))) ∧ Aside0 (Below w.heap.size w w'))
 case atStart => exact ⟨(0), (([] : List (S123))), (.slice none 0 0), (by first | rfl | (simp; done) | (simp [*]; done)), H', ⟨Nat.le_refl _⟩, ⟨by (with_reducible repeat (first | apply Kd.N_alloc | apply Kd.N_drewN | apply Kd.N_drew)); exact Kd.N_mono (Kd.N_far (p := ⟨gb169, 3, none⟩) (Kd.N_far (p := ⟨gb169, 2, none⟩) (Kd.N_far (p := ⟨gb169, 1, none⟩) (Kd.N_far (p := ⟨gb169, 0, none⟩) (Kd.N_mono HO165.out (fun k_ hk => (⟨hk, hk.2⟩ : _ ∧ k_ ≠ gb169))) (fun _ hk => hk.2) (.slice Ao8 t163.length co8)) (fun _ hk => hk.2) (.slice none 0 0)) (fun _ hk => hk.2) (.slice Ao7 t166.length co7)) (fun _ hk => hk.2) (.slice none 0 0)) (fun _ hk => ⟨hk.1.1.1.1, ⟨(by simp [Value.ownBlock]), ⟨hk.1.1.2, ⟨hk.1.1.1.2, hk.1.2⟩⟩⟩⟩)⟩, ⟨by first | exact Kd.S_nil _ _ _ _ _ | exact Kd.N_nil _ _ _ _ _ | exact Kd.V_nil _ _ _ _ _ | exact Kd.Q_nil _ _ _ _ _ | exact Kd.R_nil _ _ _ _ _⟩, ⟨by (with_reducible repeat (first | apply Kd.N_alloc | apply Kd.N_drewN | apply Kd.N_drew)); exact Kd.N_mono (Kd.N_far (p := ⟨gb169, 3, none⟩) (Kd.N_far (p := ⟨gb169, 2, none⟩) (Kd.N_far (p := ⟨gb169, 1, none⟩) (Kd.N_far (p := ⟨gb169, 0, none⟩) (Kd.N_mono HO168.out (fun k_ hk => (⟨hk, hk.2⟩ : _ ∧ k_ ≠ gb169))) (fun _ hk => hk.2) (.slice Ao8 t163.length co8)) (fun _ hk => hk.2) (.slice none 0 0)) (fun _ hk => hk.2) (.slice Ao7 t166.length co7)) (fun _ hk => hk.2) (.slice none 0 0)) (fun _ hk => ⟨hk.1.1.1, ⟨hk.1.1.2.1, ⟨(by simp [Value.ownBlock]), ⟨hk.1.1.2.2, hk.1.2⟩⟩⟩⟩)⟩, ⟨rWf_ BK162.out⟩, ⟨by (with_reducible repeat (first | refine bN_ ?_ _ | refine bD_ ?_ | refine bA_ ?_ _)); refine blk_put (cs := #[.slice Ao8 t163.length co8, .slice none 0 0, .slice Ao7 t166.length co7, .slice none 0 0]) ?_ 3 _ rfl; refine blk_put (cs := #[.slice Ao8 t163.length co8, .slice none 0 0, .slice none 0 0, .slice none 0 0]) ?_ 2 _ rfl; refine blk_put (cs := #[.slice Ao8 t163.length co8, .slice none 0 0, .slice none 0 0, .slice none 0 0]) ?_ 1 _ rfl; refine blk_put (cs := #[.slice none 0 0, .slice none 0 0, .slice none 0 0, .slice none 0 0]) ?_ 0 _ rfl; (with_reducible repeat (first | refine bN_ ?_ _ | refine bD_ ?_ | refine bA_ ?_ _)); exact BK169.out⟩, ⟨gW_ HB.out⟩⟩
 case round =>
  clear H'
  try clear c1
  try clear c2
  try clear p2
  try clear c7
  try clear c10
  try clear z_11
  obtain ⟨x5_1, x1701_1, u1701, rfl, HA, HK1, HO_170000, HO_170001, HO_170002, BK162, BK169, HB⟩ := hrel
  cases gk with
  | zero => exact absurd HA.out (by simp [spec_MachineNew.l0])
  | succ k1 =>
   have H := HA.out
   clear HA
   simp only [spec_MachineNew.l0] at H
   by_cases c12 : x5_1 < (l0.length : Int)
   ·rw [if_pos c12] at H
    have c12b0 : decide (x5_1 < (l0.length : Int)) = true := decide_eq_true c12
    clear c12
    by_cases c13 : 8 ≤ 35184372088832
    ·rw [if_pos c13] at H
     have c13b0 := eq_true c13
     have c13b1 : decide (8 ≤ 35184372088832) = true := decide_eq_true c13
     clear c13
     obtain ⟨y170, hy170⟩ : ∃ y_ : List Int, y_ = (List.replicate 8 0) := ⟨_, rfl⟩
     replace H : (if 24 ≤ 35184372088832 then (if x1701_1.length < 2199023255552 then (spec_MachineNew.l0 k1 l0 (wrap64 (x5_1 + 1)) t163 (x1701_1 ++ [(⟨0, y170, (List.replicate 24 0), 0⟩ : S123)]) t166) else (none)) else (none)) = some (r1, r2, r3, r4, r5) := by first | (rw [hy170]; with_reducible exact H) | (have H2_ := (Option.bind_some _ _).symm.trans H; rw [hy170]; with_reducible exact H2_) | (have H2_ := (Option.bind_some _ _).symm.trans H; with_reducible exact H2_) | with_reducible exact H | (rw [hy170]; exact H) | exact H
     have Ny170 := aM_ hy170
     clear hy170
     by_cases c14 : 24 ≤ 35184372088832
     ·rw [if_pos c14] at H
      have c14b0 := eq_true c14
      have c14b1 : decide (24 ≤ 35184372088832) = true := decide_eq_true c14
      clear c14
      obtain ⟨y173, hy173⟩ : ∃ y_ : List Int, y_ = (List.replicate 24 0) := ⟨_, rfl⟩
      replace H : (if x1701_1.length < 2199023255552 then (spec_MachineNew.l0 k1 l0 (wrap64 (x5_1 + 1)) t163 (x1701_1 ++ [(⟨0, y170, y173, 0⟩ : S123)]) t166) else (none)) = some (r1, r2, r3, r4, r5) := by first | (rw [hy173]; with_reducible exact H) | (have H2_ := (Option.bind_some _ _).symm.trans H; rw [hy173]; with_reducible exact H2_) | (have H2_ := (Option.bind_some _ _).symm.trans H; with_reducible exact H2_) | with_reducible exact H | (rw [hy173]; exact H) | exact H
      have Ny173 := aM_ hy173
      clear hy173
      by_cases c15 : x1701_1.length < 2199023255552
      ·rw [if_pos c15] at H
       have LMc15 := aM_ c15
       clear c15
       obtain ⟨y176, hy176⟩ : ∃ y_ : List (S123), y_ = (x1701_1 ++ [(⟨0, y170, y173, 0⟩ : S123)]) := ⟨_, rfl⟩
       replace H : (spec_MachineNew.l0 k1 l0 (wrap64 (x5_1 + 1)) t163 y176 t166) = some (r1, r2, r3, r4, r5) := by first | (rw [hy176]; with_reducible exact H) | (have H2_ := (Option.bind_some _ _).symm.trans H; rw [hy176]; with_reducible exact H2_) | (have H2_ := (Option.bind_some _ _).symm.trans H; with_reducible exact H2_) | with_reducible exact H | (rw [hy176]; exact H) | exact H
       have Ny176 := aM_ hy176
       clear hy176
       have H' := aM_ H
       clear H
       obtain ⟨Ao16, co16, eo16⟩ := Kd.N_slice HO_170001.out
       subst eo16
       try go_wp2
       replace HO_170000 := aM_ (Kd.N_drew HO_170000.out)
       replace HO_170001 := aM_ (Kd.N_drew HO_170001.out)
       replace HO_170002 := aM_ (Kd.N_drew HO_170002.out)
       replace BK162 := aM_ (blk_drew BK162.out)
       replace BK169 := aM_ (blk_drew BK169.out)
       replace HB := aM_ (below_drew1 HB.out)
       refine start_ (n := 9) (S := fun w' => w'.cell? ⟨gb169, 0, none⟩ = some (.slice Ao8 t163.length co8) ∧ w'.cell? ⟨gb169, 1, none⟩ = some (.slice Ao16 x1701_1.length co16) ∧ w'.cell? ⟨gb169, 2, none⟩ = some (.slice Ao7 t166.length co7) ∧ w'.cell? ⟨gb169, 3, none⟩ = some (.slice none 0 0)) (ds := [8]) (mk_ 9 0) (by kernel_rfl) rfl rfl (bC4_ BK169.out) (fun hHeld => ?_); refine with_tabW spec_MachineNew.tab5 spec_MachineNew.bits5 (fun HT_ HW_ => ?_)
       generalize wr.drew = w17 at HO_170000 HO_170001 HO_170002 BK162 BK169 HB hHeld ⊢
       refine pU_ 0 16 (mk_ 9 1) ?_
       refine tK4_ 1 17 (mk_ 9 3) ?_
       refine join_ (σ := Value × Value) 5 #[true, true, true, true, false, false, false, false, false] (fun s_ => [(18, s_.1), (19, s_.2)]) (fun s_ w' => (w'.cell? ⟨gb169, 0, none⟩ = some (.slice Ao8 t163.length co8) ∧ w'.cell? ⟨gb169, 1, none⟩ = some (.slice Ao16 x1701_1.length co16) ∧ w'.cell? ⟨gb169, 2, none⟩ = some (.slice Ao7 t166.length co7) ∧ w'.cell? ⟨gb169, 3, none⟩ = some (.slice none 0 0)) ∧ (Kd.R (Kd.int .i64) 3 w' w.heap.size (fun k_ => (w.heap.size ≤ k_) ∧ some k_ ≠ (s_.2 : Value).ownBlock) s_.1 y170) ∧ (Kd.R (Kd.int .i64) 3 w' w.heap.size (fun k_ => (w.heap.size ≤ k_) ∧ some k_ ≠ (s_.1 : Value).ownBlock) s_.2 y173) ∧ (Kd.N (Kd.slice 175 k175) 125 w' w.heap.size (fun k_ => (w.heap.size ≤ k_) ∧ some k_ ≠ (s_.1 : Value).ownBlock ∧ some k_ ≠ (s_.2 : Value).ownBlock ∧ some k_ ≠ (.slice Ao16 x1701_1.length co16 : Value).ownBlock ∧ some k_ ≠ (.slice Ao7 t166.length co7 : Value).ownBlock ∧ k_ ≠ gb162 ∧ k_ ≠ gb169) (.slice Ao8 t163.length co8) t163) ∧ (Kd.N k123 123 w' w.heap.size (fun k_ => (w.heap.size ≤ k_) ∧ some k_ ≠ (s_.1 : Value).ownBlock ∧ some k_ ≠ (s_.2 : Value).ownBlock ∧ some k_ ≠ (.slice Ao8 t163.length co8 : Value).ownBlock ∧ some k_ ≠ (.slice Ao7 t166.length co7 : Value).ownBlock ∧ k_ ≠ gb162 ∧ k_ ≠ gb169) (.slice Ao16 x1701_1.length co16) x1701_1) ∧ (Kd.N (Kd.slice 170 k170) 171 w' w.heap.size (fun k_ => (w.heap.size ≤ k_) ∧ some k_ ≠ (s_.1 : Value).ownBlock ∧ some k_ ≠ (s_.2 : Value).ownBlock ∧ some k_ ≠ (.slice Ao8 t163.length co8 : Value).ownBlock ∧ some k_ ≠ (.slice Ao16 x1701_1.length co16 : Value).ownBlock ∧ k_ ≠ gb162 ∧ k_ ≠ gb169) (.slice Ao7 t166.length co7) t166) ∧ (w'.heap[gb162]? = some (.cells #[.slice none 0 0, .slice none 0 0, .slice none 0 0, .slice none 0 0] 59 (0, 0))) ∧ (w'.heap[gb169]? = some (.cells #[.slice Ao8 t163.length co8, .slice Ao16 x1701_1.length co16, .slice Ao7 t166.length co7, .slice none 0 0] 59 (0, 0))) ∧ (Below w.heap.size w w')) ?_ ?_
       rotate_left
       ·intro hCont
        refine two_ (i := 2) (j := 3) (Ni := some 18) (Nj := some 19) (mk_ 9 7) (mk_ 9 11) rfl rfl rfl rfl (two_of HT_.out (by kernel_rfl)) (by decide) (by decide) (fun K hK => ?_) (fun K hK => ?_)
        ·skip
         refine Kd.R_make_step (Kd.int .i64) _ 3 (by rfl) (N := 18) rfl 31 _ _ rfl 8 rfl rfl Try.underlying31 (.int .i64 0) 8 info3 rfl (by decide) (by omega) 0 (ok := fun _ => True) (okp := fun _ => True) rfl (fun _ hk => hk) trivial (by omega) (by omega) (Below.refl _ _) (Nat.le_refl _) ?_
         intro v171 w18 ho19 hb hg_ hnew_
         clear hg_ hnew_
         (first | rw [← Ny170.out] at ho19 | (simp only [Int.reduceToNat] at ho19; rw [← Ny170.out] at ho19))
         have HO172 := aM_ (Kd.R_lower (Kd.R_newM (M := fun k_ => (w.heap.size ≤ k_)) ho19 (below_size (gB_ HB.out)) (fun k_ h_ => h_)) (below_size (gB_ HB.out)))
         replace HO_170000 := aM_ (Kd.N_elder' (by (with_reducible repeat (first | apply Kd.N_alloc | apply Kd.N_drewN | apply Kd.N_drew)); exact HO_170000.out) (Kd.R_base ho19) hb)
         replace HO_170001 := aM_ (Kd.N_elder' (by (with_reducible repeat (first | apply Kd.N_alloc | apply Kd.N_drewN | apply Kd.N_drew)); exact HO_170001.out) (Kd.R_base ho19) hb)
         replace HO_170002 := aM_ (Kd.N_elder' (by (with_reducible repeat (first | apply Kd.N_alloc | apply Kd.N_drewN | apply Kd.N_drew)); exact HO_170002.out) (Kd.R_base ho19) hb)
         replace BK162 := aM_ (nB_ BK162.out hb)
         replace BK169 := aM_ (nB_ BK169.out hb)
         replace HB := aM_ (sT_ HB.out hb)
         clear hb ho19
         refine kO_ hK (some 18) (bC4_ BK169.out) (fun hHeld => ?_)
         clear hK K
         refine oN_ 3 19 (mk_ 9 15) (fun K hK => ?_)
         refine Kd.R_make_step (Kd.int .i64) _ 3 (by rfl) (N := 19) rfl 31 _ _ rfl 24 rfl rfl Try.underlying31 (.int .i64 0) 8 info3 rfl (by decide) (by omega) 0 (ok := fun _ => True) (okp := fun _ => True) rfl (fun _ hk => hk) trivial (by omega) (by omega) (Below.refl _ _) (Nat.le_refl _) ?_
         intro v174 w20 ho21 hb hg_ hnew_
         clear hg_ hnew_
         (first | rw [← Ny173.out] at ho21 | (simp only [Int.reduceToNat] at ho21; rw [← Ny173.out] at ho21))
         have HO175 := aM_ (Kd.R_lower (Kd.R_new' (Kd.R_newM (M := fun k_ => (w.heap.size ≤ k_)) ho21 (below_size (gB_ HB.out)) (fun k_ h_ => h_)) (Kd.R_lt (by (with_reducible repeat (first | apply rA_ | apply rN_ | apply rD_)); exact HO172.out))) (below_size (gB_ HB.out)))
         replace HO_170000 := aM_ (Kd.N_elder' (by (with_reducible repeat (first | apply Kd.N_alloc | apply Kd.N_drewN | apply Kd.N_drew)); exact HO_170000.out) (Kd.R_base ho21) hb)
         replace HO_170001 := aM_ (Kd.N_elder' (by (with_reducible repeat (first | apply Kd.N_alloc | apply Kd.N_drewN | apply Kd.N_drew)); exact HO_170001.out) (Kd.R_base ho21) hb)
         replace HO_170002 := aM_ (Kd.N_elder' (by (with_reducible repeat (first | apply Kd.N_alloc | apply Kd.N_drewN | apply Kd.N_drew)); exact HO_170002.out) (Kd.R_base ho21) hb)
         replace HO172 := aM_ (Kd.R_elder' (by (with_reducible repeat (first | apply rA_ | apply rN_ | apply rD_)); exact HO172.out) (Kd.R_base ho21) hb)
         replace BK162 := aM_ (nB_ BK162.out hb)
         replace BK169 := aM_ (nB_ BK169.out hb)
         replace HB := aM_ (sT_ HB.out hb)
         clear hb ho21
         obtain ⟨Ao22, co22, eo22⟩ := Kd.R_slice HO175.out
         (first | subst eo22 | (injection eo22 with f1_ f2_ f3_; have f4_ := f1_.symm; have f5_ := f3_.symm; clear f1_ f2_ f3_; subst f4_; subst f5_))
         obtain ⟨Ao23, co23, eo23⟩ := Kd.R_slice HO172.out
         (first | subst eo23 | (injection eo23 with f1_ f2_ f3_; have f4_ := f1_.symm; have f5_ := f3_.symm; clear f1_ f2_ f3_; subst f4_; subst f5_))
         refine kO_ hK (some 19) (bC4_ BK169.out) (fun hHeld => ?_)
         clear hK K
         exact norm_ (by simp only [putAll, Act.put, List.setIfInBounds_toArray, List.set_cons_zero, List.set_cons_succ]) (hCont (.slice Ao23 y170.length co23, .slice Ao22 y173.length co22) _ ⟨hHeld, (by (with_reducible repeat (first | apply rA_ | apply rN_ | apply rD_)); exact Kd.R_mono HO172.out (fun _ hk => ⟨hk.1.1, hk.2⟩)), (by (with_reducible repeat (first | apply rA_ | apply rN_ | apply rD_)); exact Kd.R_mono HO175.out (fun _ hk => ⟨hk.1.1, hk.2⟩)), (by (with_reducible repeat (first | apply Kd.N_alloc | apply Kd.N_drewN | apply Kd.N_drew)); exact Kd.N_mono HO_170000.out (fun _ hk => ⟨hk.1.1.1, ⟨hk.1.2, ⟨hk.2, ⟨hk.1.1.2.1, ⟨hk.1.1.2.2.1, ⟨hk.1.1.2.2.2.1, hk.1.1.2.2.2.2⟩⟩⟩⟩⟩⟩)), (by (with_reducible repeat (first | apply Kd.N_alloc | apply Kd.N_drewN | apply Kd.N_drew)); exact Kd.N_mono HO_170001.out (fun _ hk => ⟨hk.1.1.1, ⟨hk.1.2, ⟨hk.2, ⟨hk.1.1.2.1, ⟨hk.1.1.2.2.1, ⟨hk.1.1.2.2.2.1, hk.1.1.2.2.2.2⟩⟩⟩⟩⟩⟩)), (by (with_reducible repeat (first | apply Kd.N_alloc | apply Kd.N_drewN | apply Kd.N_drew)); exact Kd.N_mono HO_170002.out (fun _ hk => ⟨hk.1.1.1, ⟨hk.1.2, ⟨hk.2, ⟨hk.1.1.2.1, ⟨hk.1.1.2.2.1, ⟨hk.1.1.2.2.2.1, hk.1.1.2.2.2.2⟩⟩⟩⟩⟩⟩)), (by (with_reducible repeat (first | refine bN_ ?_ _ | refine bD_ ?_ | refine bA_ ?_ _)); exact BK162.out), (by (with_reducible repeat (first | refine bN_ ?_ _ | refine bD_ ?_ | refine bA_ ?_ _)); exact BK169.out), (gB_ HB.out)⟩)
        ·skip
         refine Kd.R_make_step (Kd.int .i64) _ 3 (by rfl) (N := 19) rfl 31 _ _ rfl 24 rfl rfl Try.underlying31 (.int .i64 0) 8 info3 rfl (by decide) (by omega) 0 (ok := fun _ => True) (okp := fun _ => True) rfl (fun _ hk => hk) trivial (by omega) (by omega) (Below.refl _ _) (Nat.le_refl _) ?_
         intro v174 w18 ho19 hb hg_ hnew_
         clear hg_ hnew_
         (first | rw [← Ny173.out] at ho19 | (simp only [Int.reduceToNat] at ho19; rw [← Ny173.out] at ho19))
         have HO175 := aM_ (Kd.R_lower (Kd.R_newM (M := fun k_ => (w.heap.size ≤ k_)) ho19 (below_size (gB_ HB.out)) (fun k_ h_ => h_)) (below_size (gB_ HB.out)))
         replace HO_170000 := aM_ (Kd.N_elder' (by (with_reducible repeat (first | apply Kd.N_alloc | apply Kd.N_drewN | apply Kd.N_drew)); exact HO_170000.out) (Kd.R_base ho19) hb)
         replace HO_170001 := aM_ (Kd.N_elder' (by (with_reducible repeat (first | apply Kd.N_alloc | apply Kd.N_drewN | apply Kd.N_drew)); exact HO_170001.out) (Kd.R_base ho19) hb)
         replace HO_170002 := aM_ (Kd.N_elder' (by (with_reducible repeat (first | apply Kd.N_alloc | apply Kd.N_drewN | apply Kd.N_drew)); exact HO_170002.out) (Kd.R_base ho19) hb)
         replace BK162 := aM_ (nB_ BK162.out hb)
         replace BK169 := aM_ (nB_ BK169.out hb)
         replace HB := aM_ (sT_ HB.out hb)
         clear hb ho19
         refine kO_ hK (some 19) (bC4_ BK169.out) (fun hHeld => ?_)
         clear hK K
         refine oN_ 2 18 (mk_ 9 15) (fun K hK => ?_)
         refine Kd.R_make_step (Kd.int .i64) _ 3 (by rfl) (N := 18) rfl 31 _ _ rfl 8 rfl rfl Try.underlying31 (.int .i64 0) 8 info3 rfl (by decide) (by omega) 0 (ok := fun _ => True) (okp := fun _ => True) rfl (fun _ hk => hk) trivial (by omega) (by omega) (Below.refl _ _) (Nat.le_refl _) ?_
         intro v171 w20 ho21 hb hg_ hnew_
         clear hg_ hnew_
         (first | rw [← Ny170.out] at ho21 | (simp only [Int.reduceToNat] at ho21; rw [← Ny170.out] at ho21))
         have HO172 := aM_ (Kd.R_lower (Kd.R_new' (Kd.R_newM (M := fun k_ => (w.heap.size ≤ k_)) ho21 (below_size (gB_ HB.out)) (fun k_ h_ => h_)) (Kd.R_lt (by (with_reducible repeat (first | apply rA_ | apply rN_ | apply rD_)); exact HO175.out))) (below_size (gB_ HB.out)))
         replace HO_170000 := aM_ (Kd.N_elder' (by (with_reducible repeat (first | apply Kd.N_alloc | apply Kd.N_drewN | apply Kd.N_drew)); exact HO_170000.out) (Kd.R_base ho21) hb)
         replace HO_170001 := aM_ (Kd.N_elder' (by (with_reducible repeat (first | apply Kd.N_alloc | apply Kd.N_drewN | apply Kd.N_drew)); exact HO_170001.out) (Kd.R_base ho21) hb)
         replace HO_170002 := aM_ (Kd.N_elder' (by (with_reducible repeat (first | apply Kd.N_alloc | apply Kd.N_drewN | apply Kd.N_drew)); exact HO_170002.out) (Kd.R_base ho21) hb)
         replace HO175 := aM_ (Kd.R_elder' (by (with_reducible repeat (first | apply rA_ | apply rN_ | apply rD_)); exact HO175.out) (Kd.R_base ho21) hb)
         replace BK162 := aM_ (nB_ BK162.out hb)
         replace BK169 := aM_ (nB_ BK169.out hb)
         replace HB := aM_ (sT_ HB.out hb)
         clear hb ho21
         obtain ⟨Ao22, co22, eo22⟩ := Kd.R_slice HO175.out
         (first | subst eo22 | (injection eo22 with f1_ f2_ f3_; have f4_ := f1_.symm; have f5_ := f3_.symm; clear f1_ f2_ f3_; subst f4_; subst f5_))
         obtain ⟨Ao23, co23, eo23⟩ := Kd.R_slice HO172.out
         (first | subst eo23 | (injection eo23 with f1_ f2_ f3_; have f4_ := f1_.symm; have f5_ := f3_.symm; clear f1_ f2_ f3_; subst f4_; subst f5_))
         refine kO_ hK (some 18) (bC4_ BK169.out) (fun hHeld => ?_)
         clear hK K
         exact norm_ (by simp only [putAll, Act.put, List.setIfInBounds_toArray, List.set_cons_zero, List.set_cons_succ]) (hCont (.slice Ao23 y170.length co23, .slice Ao22 y173.length co22) _ ⟨hHeld, (by (with_reducible repeat (first | apply rA_ | apply rN_ | apply rD_)); exact Kd.R_mono HO172.out (fun _ hk => ⟨hk.1.1, hk.2⟩)), (by (with_reducible repeat (first | apply rA_ | apply rN_ | apply rD_)); exact Kd.R_mono HO175.out (fun _ hk => ⟨hk.1.1, hk.2⟩)), (by (with_reducible repeat (first | apply Kd.N_alloc | apply Kd.N_drewN | apply Kd.N_drew)); exact Kd.N_mono HO_170000.out (fun _ hk => ⟨hk.1.1.1, ⟨hk.2, ⟨hk.1.2, ⟨hk.1.1.2.1, ⟨hk.1.1.2.2.1, ⟨hk.1.1.2.2.2.1, hk.1.1.2.2.2.2⟩⟩⟩⟩⟩⟩)), (by (with_reducible repeat (first | apply Kd.N_alloc | apply Kd.N_drewN | apply Kd.N_drew)); exact Kd.N_mono HO_170001.out (fun _ hk => ⟨hk.1.1.1, ⟨hk.2, ⟨hk.1.2, ⟨hk.1.1.2.1, ⟨hk.1.1.2.2.1, ⟨hk.1.1.2.2.2.1, hk.1.1.2.2.2.2⟩⟩⟩⟩⟩⟩)), (by (with_reducible repeat (first | apply Kd.N_alloc | apply Kd.N_drewN | apply Kd.N_drew)); exact Kd.N_mono HO_170002.out (fun _ hk => ⟨hk.1.1.1, ⟨hk.2, ⟨hk.1.2, ⟨hk.1.1.2.1, ⟨hk.1.1.2.2.1, ⟨hk.1.1.2.2.2.1, hk.1.1.2.2.2.2⟩⟩⟩⟩⟩⟩)), (by (with_reducible repeat (first | refine bN_ ?_ _ | refine bD_ ?_ | refine bA_ ?_ _)); exact BK162.out), (by (with_reducible repeat (first | refine bN_ ?_ _ | refine bD_ ?_ | refine bA_ ?_ _)); exact BK169.out), (gB_ HB.out)⟩)
       rintro ⟨v171, v174⟩ w24 ⟨hS_, h0_, h1_, h2_, h3_, h4_, h5_, h6_, h7_⟩
       have n0 : Aside0 (Kd.R (Kd.int .i64) 3 w24 w.heap.size (fun k_ => (w.heap.size ≤ k_) ∧ some k_ ≠ (v174 : Value).ownBlock) v171 y170) := ⟨h0_⟩
       have n1 : Aside0 (Kd.R (Kd.int .i64) 3 w24 w.heap.size (fun k_ => (w.heap.size ≤ k_) ∧ some k_ ≠ (v171 : Value).ownBlock) v174 y173) := ⟨h1_⟩
       have n2 : Aside0 (Kd.N (Kd.slice 175 k175) 125 w24 w.heap.size (fun k_ => (w.heap.size ≤ k_) ∧ some k_ ≠ (v171 : Value).ownBlock ∧ some k_ ≠ (v174 : Value).ownBlock ∧ some k_ ≠ (.slice Ao16 x1701_1.length co16 : Value).ownBlock ∧ some k_ ≠ (.slice Ao7 t166.length co7 : Value).ownBlock ∧ k_ ≠ gb162 ∧ k_ ≠ gb169) (.slice Ao8 t163.length co8) t163) := ⟨h2_⟩
       have n3 : Aside0 (Kd.N k123 123 w24 w.heap.size (fun k_ => (w.heap.size ≤ k_) ∧ some k_ ≠ (v171 : Value).ownBlock ∧ some k_ ≠ (v174 : Value).ownBlock ∧ some k_ ≠ (.slice Ao8 t163.length co8 : Value).ownBlock ∧ some k_ ≠ (.slice Ao7 t166.length co7 : Value).ownBlock ∧ k_ ≠ gb162 ∧ k_ ≠ gb169) (.slice Ao16 x1701_1.length co16) x1701_1) := ⟨h3_⟩
       have n4 : Aside0 (Kd.N (Kd.slice 170 k170) 171 w24 w.heap.size (fun k_ => (w.heap.size ≤ k_) ∧ some k_ ≠ (v171 : Value).ownBlock ∧ some k_ ≠ (v174 : Value).ownBlock ∧ some k_ ≠ (.slice Ao8 t163.length co8 : Value).ownBlock ∧ some k_ ≠ (.slice Ao16 x1701_1.length co16 : Value).ownBlock ∧ k_ ≠ gb162 ∧ k_ ≠ gb169) (.slice Ao7 t166.length co7) t166) := ⟨h4_⟩
       have n5 : Aside0 (w24.heap[gb162]? = some (.cells #[.slice none 0 0, .slice none 0 0, .slice none 0 0, .slice none 0 0] 59 (0, 0))) := ⟨h5_⟩
       have n6 : Aside0 (w24.heap[gb169]? = some (.cells #[.slice Ao8 t163.length co8, .slice Ao16 x1701_1.length co16, .slice Ao7 t166.length co7, .slice none 0 0] 59 (0, 0))) := ⟨h6_⟩
       have n7 : Aside0 (Below w.heap.size w w24) := ⟨h7_⟩
       clear HO_170000
       clear HO_170001
       clear HO_170002
       clear BK162
       clear BK169
       clear HB
       clear h0_ h1_ h2_ h3_ h4_ h5_ h6_ h7_
       have HO172 := n0
       have HO175 := n1
       have HO_170000 := n2
       have HO_170001 := n3
       have HO_170002 := n4
       have BK162 := n5
       have BK169 := n6
       have HB := n7
       clear n0 n1 n2 n3 n4 n5 n6 n7
       have hHeld : w24.cell? ⟨gb169, 0, none⟩ = some (.slice Ao8 t163.length co8) ∧ w24.cell? ⟨gb169, 1, none⟩ = some (.slice Ao16 x1701_1.length co16) ∧ w24.cell? ⟨gb169, 2, none⟩ = some (.slice Ao7 t166.length co7) ∧ w24.cell? ⟨gb169, 3, none⟩ = some (.slice none 0 0) := hS_
       obtain ⟨Ao25, co25, eo25⟩ := Kd.R_slice HO175.out
       (first | subst eo25 | (injection eo25 with f1_ f2_ f3_; have f4_ := f1_.symm; have f5_ := f3_.symm; clear f1_ f2_ f3_; subst f4_; subst f5_))
       obtain ⟨Ao26, co26, eo26⟩ := Kd.R_slice HO172.out
       (first | subst eo26 | (injection eo26 with f1_ f2_ f3_; have f4_ := f1_.symm; have f5_ := f3_.symm; clear f1_ f2_ f3_; subst f4_; subst f5_))
       refine norm_ (a' := ?_) ?_ ?_
       rotate_left
       ·simp only [putAll, Act.put, List.setIfInBounds_toArray, List.set_cons_zero, List.set_cons_succ]
        rfl
       refine pU_ 4 20 (mk_ 9 31) ?_
       refine oN_ 5 21 (mk_ 9 63) (fun K hK => ?_)
       refine value_ (w1 := ?_) (v := ?_) (by rfl) rfl ?_ ?_
       rotate_left 2
       ·go_simp
        constructor
        ·rfl
        ·rfl
       refine kO_ hK (some 21) ⟨(blk_cell (blk_alloc BK169.out _) 0).trans rfl, (blk_cell (blk_alloc BK169.out _) 1).trans rfl, (blk_cell (blk_alloc BK169.out _) 2).trans rfl, (blk_cell (blk_alloc BK169.out _) 3).trans rfl⟩ (fun hHeld => ?_)
       clear hK K
       refine oN_ 6 22 (mk_ 9 127) (fun K hK => ?_)
       refine Kd.N_append_step k123 (w0 := w) w.heap.size (by rfl) (.tmp 17) (.tmp 21) 54 123 (.agg #[(.int .i64 0), (.slice none 0 0), (.slice none 0 0), (.int .i64 0)]) 64 rfl Try.underlying54 info123 rfl (by decide) (by omega) (.slice Ao16 x1701_1.length co16) x1701_1 (⟨0, y170, y173, 0⟩ : S123) [.int .i64 0, .slice Ao26 y170.length co26, .slice Ao25 y173.length co25, .int .i64 0] (fun k_ => (w.heap.size ≤ k_) ∧ some k_ ≠ (.slice Ao8 t163.length co8 : Value).ownBlock ∧ some k_ ≠ (.slice Ao7 t166.length co7 : Value).ownBlock ∧ k_ ≠ gb162 ∧ k_ ≠ gb169) (fun k_ => ((fun k_ => (w.heap.size ≤ k_) ∧ some k_ ≠ (.slice Ao8 t163.length co8 : Value).ownBlock ∧ some k_ ≠ (.slice Ao7 t166.length co7 : Value).ownBlock ∧ k_ ≠ gb162 ∧ k_ ≠ gb169)) k_ ∧ some k_ ≠ (.slice Ao16 x1701_1.length co16 : Value).ownBlock) rfl rfl ?aP (fun _ hk => hk) ?aF ?aO ?aB ?aS ?aL ?_
       (case aP => exact (k123_mkF _ _ (⟨0, y170, y173, 0⟩ : S123) (Kd.R_reads' (Kd.R_mono (ok' := (fun k_ => ((fun k_ => (w.heap.size ≤ k_) ∧ some k_ ≠ (.slice Ao8 t163.length co8 : Value).ownBlock ∧ some k_ ≠ (.slice Ao7 t166.length co7 : Value).ownBlock ∧ k_ ≠ gb162 ∧ k_ ≠ gb169)) k_ ∧ some k_ ≠ (.slice Ao16 x1701_1.length co16 : Value).ownBlock)) (Kd.R_types (Kd.R_types (Kd.R_apart' (Kd.R_apart' (Kd.R_apart' (HO172.out) (Kd.N_typed HO_170000.out) (by decide)) (Kd.N_typed HO_170002.out) (by decide)) (Kd.N_typed HO_170001.out) (by decide)) BK162.out (by decide)) BK169.out (by decide)) (fun k_ hk => ⟨⟨hk.1.1.1.1.1.1, ⟨hk.1.1.1.1.2, ⟨hk.1.1.1.2, ⟨hk.1.2, hk.2⟩⟩⟩⟩, hk.1.1.2⟩))).2.1 (Kd.R_F (Kd.R_mono (ok' := (fun k_ => ((fun k_ => (w.heap.size ≤ k_) ∧ some k_ ≠ (.slice Ao8 t163.length co8 : Value).ownBlock ∧ some k_ ≠ (.slice Ao7 t166.length co7 : Value).ownBlock ∧ k_ ≠ gb162 ∧ k_ ≠ gb169)) k_ ∧ some k_ ≠ (.slice Ao16 x1701_1.length co16 : Value).ownBlock)) (Kd.R_types (Kd.R_types (Kd.R_apart' (Kd.R_apart' (Kd.R_apart' (HO172.out) (Kd.N_typed HO_170000.out) (by decide)) (Kd.N_typed HO_170002.out) (by decide)) (Kd.N_typed HO_170001.out) (by decide)) BK162.out (by decide)) BK169.out (by decide)) (fun k_ hk => ⟨⟨hk.1.1.1.1.1.1, ⟨hk.1.1.1.1.2, ⟨hk.1.1.1.2, ⟨hk.1.2, hk.2⟩⟩⟩⟩, hk.1.1.2⟩))) (Kd.R_reads' (Kd.R_mono (ok' := (fun k_ => ((fun k_ => (w.heap.size ≤ k_) ∧ some k_ ≠ (.slice Ao8 t163.length co8 : Value).ownBlock ∧ some k_ ≠ (.slice Ao7 t166.length co7 : Value).ownBlock ∧ k_ ≠ gb162 ∧ k_ ≠ gb169)) k_ ∧ some k_ ≠ (.slice Ao16 x1701_1.length co16 : Value).ownBlock)) (Kd.R_types (Kd.R_types (Kd.R_apart' (Kd.R_apart' (Kd.R_apart' (HO175.out) (Kd.N_typed HO_170000.out) (by decide)) (Kd.N_typed HO_170002.out) (by decide)) (Kd.N_typed HO_170001.out) (by decide)) BK162.out (by decide)) BK169.out (by decide)) (fun k_ hk => ⟨⟨hk.1.1.1.1.1.1, ⟨hk.1.1.1.1.2, ⟨hk.1.1.1.2, ⟨hk.1.2, hk.2⟩⟩⟩⟩, hk.1.1.2⟩))).2.1 (Kd.R_F (Kd.R_mono (ok' := (fun k_ => ((fun k_ => (w.heap.size ≤ k_) ∧ some k_ ≠ (.slice Ao8 t163.length co8 : Value).ownBlock ∧ some k_ ≠ (.slice Ao7 t166.length co7 : Value).ownBlock ∧ k_ ≠ gb162 ∧ k_ ≠ gb169)) k_ ∧ some k_ ≠ (.slice Ao16 x1701_1.length co16 : Value).ownBlock)) (Kd.R_types (Kd.R_types (Kd.R_apart' (Kd.R_apart' (Kd.R_apart' (HO175.out) (Kd.N_typed HO_170000.out) (by decide)) (Kd.N_typed HO_170002.out) (by decide)) (Kd.N_typed HO_170001.out) (by decide)) BK162.out (by decide)) BK169.out (by decide)) (fun k_ hk => ⟨⟨hk.1.1.1.1.1.1, ⟨hk.1.1.1.1.2, ⟨hk.1.1.1.2, ⟨hk.1.2, hk.2⟩⟩⟩⟩, hk.1.1.2⟩)))))
       (case aB => exact (gB_ HB.out))
       (case aF => exact (fun k_ hk => ⟨(Nat.le_trans (below_size (gB_ HB.out)) hk), Kd.fresh' (Kd.N_lt (by (with_reducible repeat (first | apply Kd.N_alloc | apply Kd.N_drewN | apply Kd.N_drew)); exact HO_170000.out)) k_ hk, Kd.fresh' (Kd.N_lt (by (with_reducible repeat (first | apply Kd.N_alloc | apply Kd.N_drewN | apply Kd.N_drew)); exact HO_170002.out)) k_ hk, Kd.freshB (g := gb162) (o := .cells #[.slice none 0 0, .slice none 0 0, .slice none 0 0, .slice none 0 0] 59 (0, 0)) (by (with_reducible repeat (first | refine bN_ ?_ _ | refine bD_ ?_ | refine bA_ ?_ _)); exact BK162.out) k_ hk, Kd.freshB (g := gb169) (o := .cells #[.slice Ao8 t163.length co8, .slice Ao16 x1701_1.length co16, .slice Ao7 t166.length co7, .slice none 0 0] 59 (0, 0)) (by (with_reducible repeat (first | refine bN_ ?_ _ | refine bD_ ?_ | refine bA_ ?_ _)); exact BK169.out) k_ hk⟩))
       (case aO => exact (by (with_reducible repeat (first | apply Kd.N_alloc | apply Kd.N_drewN | apply Kd.N_drew)); exact Kd.N_mono HO_170001.out (fun _ hk => ⟨hk.1, ⟨hk.2.2.2.1, ⟨hk.2.2.2.2.1, ⟨hk.2.2.2.2.2.1, hk.2.2.2.2.2.2⟩⟩⟩⟩)))
       (case aS => exact (below_size (gB_ HB.out)))
       (case aL => have := LMc15.out; omega)
       intro v177 w27 ho hb hg hat
       rw [← Ny176.out] at ho
       have HO178 := aM_ (ho)
       replace HO_170000 := aM_ (Kd.N_afterv (ok := (fun k_ => (w.heap.size ≤ k_) ∧ some k_ ≠ (.slice Ao7 t166.length co7 : Value).ownBlock ∧ some k_ ≠ (.slice Ao26 y170.length co26 : Value).ownBlock ∧ some k_ ≠ (.slice Ao25 y173.length co25 : Value).ownBlock ∧ k_ ≠ gb162 ∧ k_ ≠ gb169)) (by (with_reducible repeat (first | apply Kd.N_alloc | apply Kd.N_drewN | apply Kd.N_drew)); exact Kd.N_mono HO_170000.out (fun _ hk => ⟨⟨hk.1, ⟨hk.2.2.2.2.1, ⟨hk.2.1, ⟨hk.2.2.1, ⟨hk.2.2.2.2.2.1, hk.2.2.2.2.2.2⟩⟩⟩⟩⟩, hk.2.2.2.1⟩)) hg hat)
       replace HO_170002 := aM_ (Kd.N_afterv (ok := (fun k_ => (w.heap.size ≤ k_) ∧ some k_ ≠ (.slice Ao8 t163.length co8 : Value).ownBlock ∧ some k_ ≠ (.slice Ao26 y170.length co26 : Value).ownBlock ∧ some k_ ≠ (.slice Ao25 y173.length co25 : Value).ownBlock ∧ k_ ≠ gb162 ∧ k_ ≠ gb169)) (by (with_reducible repeat (first | apply Kd.N_alloc | apply Kd.N_drewN | apply Kd.N_drew)); exact Kd.N_mono HO_170002.out (fun _ hk => ⟨⟨hk.1, ⟨hk.2.2.2.1, ⟨hk.2.1, ⟨hk.2.2.1, ⟨hk.2.2.2.2.2.1, hk.2.2.2.2.2.2⟩⟩⟩⟩⟩, hk.2.2.2.2.1⟩)) hg hat)
       replace BK162 := aM_ (blk_grown (g := gb162) (o := .cells #[.slice none 0 0, .slice none 0 0, .slice none 0 0, .slice none 0 0] 59 (0, 0)) (by (with_reducible repeat (first | refine bN_ ?_ _ | refine bD_ ?_ | refine bA_ ?_ _)); exact BK162.out) hg (Kd.N_ne HO_170001.out BK162.out (by decide)))
       replace BK169 := aM_ (blk_grown (g := gb169) (o := .cells #[.slice Ao8 t163.length co8, .slice Ao16 x1701_1.length co16, .slice Ao7 t166.length co7, .slice none 0 0] 59 (0, 0)) (by (with_reducible repeat (first | refine bN_ ?_ _ | refine bD_ ?_ | refine bA_ ?_ _)); exact BK169.out) hg (Kd.N_ne HO_170001.out BK169.out (by decide)))
       replace HB := aM_ (hb)
       clear HO172 HO175 HO_170001
       clear ho hb hg hat
       obtain ⟨Ao28, co28, eo28⟩ := Kd.N_slice HO178.out
       (first | subst eo28 | (injection eo28 with f1_ f2_ f3_; have f4_ := f1_.symm; have f5_ := f3_.symm; clear f1_ f2_ f3_; subst f4_; subst f5_))
       refine kO_ hK (some 22) (bC4_ BK169.out) (fun hHeld => ?_)
       clear hK K
       refine pU_ 7 23 (mk_ 9 255) ?_
       refine last_ (i := 8) (N := none) (mk_ 9 511) rfl rfl (one_of HT_.out (by kernel_rfl)) (by decide) (fun K hK => ?_)
       have hs29 : w27.cell? ⟨gb169, 1, none⟩ = some (.slice Ao16 x1701_1.length co16) := (blk_cell BK169.out 1).trans rfl
       have hfs29 := blk_frozen BK169.out 1
       have hns29_0 := NB162_169.out
       have hms29_0 := NB169_162.out
       refine skip_ (w1 := ?_) (by rfl) rfl ?_ ?_
       rotate_left
       ·go_simp
        rfl
       refine hK.out _ _ ?_
       clear hK K
       refine done_ (done_of HT_.out (by kernel_rfl)) ?_
       try go_wp2
       go_roundg k1
       case measure => have := HK1.out; omega
       case rel => exact ⟨(wrap64 (x5_1 + 1)), (y176), (.slice Ao28 y176.length co28), (by first | rfl | (simp; done) | (simp [*]; done)), H', ⟨by have := HK1.out; omega⟩, ⟨by (with_reducible repeat (first | apply Kd.N_alloc | apply Kd.N_drewN | apply Kd.N_drew)); exact Kd.N_mono (Kd.N_far (p := ⟨gb169, 1, none⟩) (Kd.N_mono HO_170000.out (fun k_ hk => (⟨hk, hk.1.2.2.2.2.2⟩ : _ ∧ k_ ≠ gb169))) (fun _ hk => hk.2) (.slice Ao28 y176.length co28)) (fun _ hk => ⟨hk.1.1.1, ⟨hk.1.2, ⟨hk.1.1.2.1, ⟨hk.1.1.2.2.2.2.1, hk.1.1.2.2.2.2.2⟩⟩⟩⟩)⟩, ⟨by (with_reducible repeat (first | apply Kd.N_alloc | apply Kd.N_drewN | apply Kd.N_drew)); exact Kd.N_mono (Kd.N_far (p := ⟨gb169, 1, none⟩) (Kd.N_mono HO178.out (fun k_ hk => (⟨hk, hk.2.2.2.2⟩ : _ ∧ k_ ≠ gb169))) (fun _ hk => hk.2) (.slice Ao28 y176.length co28)) (fun _ hk => ⟨hk.1.1, ⟨hk.1.2.1, ⟨hk.1.2.2.1, ⟨hk.1.2.2.2.1, hk.1.2.2.2.2⟩⟩⟩⟩)⟩, ⟨by (with_reducible repeat (first | apply Kd.N_alloc | apply Kd.N_drewN | apply Kd.N_drew)); exact Kd.N_mono (Kd.N_far (p := ⟨gb169, 1, none⟩) (Kd.N_mono HO_170002.out (fun k_ hk => (⟨hk, hk.1.2.2.2.2.2⟩ : _ ∧ k_ ≠ gb169))) (fun _ hk => hk.2) (.slice Ao28 y176.length co28)) (fun _ hk => ⟨hk.1.1.1, ⟨hk.1.1.2.1, ⟨hk.1.2, ⟨hk.1.1.2.2.2.2.1, hk.1.1.2.2.2.2.2⟩⟩⟩⟩)⟩, ⟨rWf_ BK162.out⟩, ⟨by (with_reducible repeat (first | refine bN_ ?_ _ | refine bD_ ?_ | refine bA_ ?_ _)); refine blk_put (cs := #[.slice Ao8 t163.length co8, .slice Ao16 x1701_1.length co16, .slice Ao7 t166.length co7, .slice none 0 0]) ?_ 1 _ rfl; (with_reducible repeat (first | refine bN_ ?_ _ | refine bD_ ?_ | refine bA_ ?_ _)); exact BK169.out⟩, ⟨gW_ HB.out⟩⟩
      ·rw [if_neg c15] at H
       exact absurd H (by simp)
     ·rw [if_neg c14] at H
      exact absurd H (by simp)
    ·rw [if_neg c13] at H
     exact absurd H (by simp)
   ·rw [if_neg c12] at H
    have c12b0 : decide (x5_1 < (l0.length : Int)) = false := decide_eq_false c12
    clear c12
    replace H := Option.bind_eq_some_iff.mp H
    obtain ⟨t179, A300, H⟩ := H
    replace H : (if t179 = true then (some (t163, x1701_1, t166, ([] : List (S35)), true)) else (some (([] : List (List (S175))), ([] : List (S123)), ([] : List (List (S170))), ([] : List (S35)), false))) = some (r1, r2, r3, r4, r5) := H
    have A30 := aM_ A300
    clear A300
    by_cases c31 : t179 = true
    ·subst c31
     have H1 : (some (t163, x1701_1, t166, ([] : List (S35)), true)) = some (r1, r2, r3, r4, r5) := by rw [if_pos rfl] at H; exact H
     clear H
     have H := H1
     clear H1
     simp only [Option.some.injEq, Prod.mk.injEq] at H
     obtain ⟨rfl, rfl, rfl, rfl, rfl⟩ := H
     have hnb32 := NB169_162.out
     have hnc32 := NB162_169.out
     have z_33 := bR4_ BK169.out
     obtain ⟨Ao34, co34, eo34⟩ := Kd.N_slice HO_170001.out
     subst eo34
     go_wp2_with (first | ((with_reducible refine gate_callee (f := 78) rfl ?_); refine gL_ (some 25) Try.func78 #[.agg #[.slice Ao8 t163.length co8, .slice Ao34 x1701_1.length co34, .slice Ao7 t166.length co7, .slice none 0 0]] ?_; (refine (spec_MachineOk.calls k1 _ _ t163 _ _ x1701_1 _ _ t166 _ _ ([] : List (S35)) true _ ?side1 ?side2 ?side3 ?side4 ?side5 ?side6 ?side7 ?side8 A30.out).mono ?_); (case side1 => exact cS_ (Kd.N_reads' HO_170000.out).2.2); (case side2 => exact (Kd.N_reads' HO_170000.out).2.1); (case side3 => exact cS_ (Kd.N_reads' HO_170001.out).2.2); (case side4 => exact (Kd.N_reads' HO_170001.out).2.1); (case side5 => exact cS_ (Kd.N_reads' HO_170002.out).2.2); (case side6 => exact (Kd.N_reads' HO_170002.out).2.1); (case side7 => exact Kd.C_nil _ _); (case side8 => exact Nat.le_refl _); rintro e w35 ⟨rfl, hb⟩; refine ⟨_, rfl, ?_⟩; replace HO_170000 := aM_ (Kd.N_below (by (with_reducible repeat (first | apply Kd.N_alloc | apply Kd.N_drewN | apply Kd.N_drew)); exact HO_170000.out) hb); replace HO_170001 := aM_ (Kd.N_below (by (with_reducible repeat (first | apply Kd.N_alloc | apply Kd.N_drewN | apply Kd.N_drew)); exact HO_170001.out) hb); replace HO_170002 := aM_ (Kd.N_below (by (with_reducible repeat (first | apply Kd.N_alloc | apply Kd.N_drewN | apply Kd.N_drew)); exact HO_170002.out) hb); replace BK162 := aM_ (nB_ BK162.out hb); replace BK169 := aM_ (nB_ BK169.out hb); replace HB := aM_ (sT_ HB.out hb); have z_36 := bR4_ BK169.out; have z_37 := bR4_ BK162.out))
     refine bodyPost_ret (results_ct rfl _ _ gb162 59 #[.slice Ao8 t163.length co8, .slice Ao34 x1701_1.length co34, .slice Ao7 t166.length co7, .slice none 0 0] (0, 0) _ rfl (by (with_reducible repeat (first | refine bN_ ?_ _ | refine bD_ ?_ | refine bA_ ?_ _)); refine blk_put (cs := #[.slice Ao8 t163.length co8, .slice Ao34 x1701_1.length co34, .slice Ao7 t166.length co7, .slice none 0 0]) ?_ 3 _ rfl; refine blk_put (cs := #[.slice Ao8 t163.length co8, .slice Ao34 x1701_1.length co34, .slice none 0 0, .slice none 0 0]) ?_ 2 _ rfl; refine blk_put (cs := #[.slice Ao8 t163.length co8, .slice none 0 0, .slice none 0 0, .slice none 0 0]) ?_ 1 _ rfl; refine blk_put (cs := #[.slice none 0 0, .slice none 0 0, .slice none 0 0, .slice none 0 0]) ?_ 0 _ rfl; exact rW_ BK162.out) Try.underlying59 rfl (by kernel_rfl)) rfl ?_
     exact ⟨_, _, _, _, fR_, by (with_reducible repeat (first | apply Kd.N_alloc | apply Kd.N_drewN | apply Kd.N_drew)); exact Kd.N_mono (Kd.N_far (p := ⟨gb162, 3, none⟩) (Kd.N_far (p := ⟨gb162, 2, none⟩) (Kd.N_far (p := ⟨gb162, 1, none⟩) (Kd.N_far (p := ⟨gb162, 0, none⟩) (Kd.N_mono HO_170000.out (fun k_ hk => (⟨hk, hk.2.2.2.1⟩ : _ ∧ k_ ≠ gb162))) (fun _ hk => hk.2) (.slice Ao8 t163.length co8)) (fun _ hk => hk.2) (.slice Ao34 x1701_1.length co34)) (fun _ hk => hk.2) (.slice Ao7 t166.length co7)) (fun _ hk => hk.2) (.slice none 0 0)) (fun _ hk => ⟨hk.1.1, ⟨hk.1.2.1, ⟨hk.1.2.2.1, (by simp [Value.ownBlock])⟩⟩⟩), by (with_reducible repeat (first | apply Kd.N_alloc | apply Kd.N_drewN | apply Kd.N_drew)); exact Kd.N_mono (Kd.N_far (p := ⟨gb162, 3, none⟩) (Kd.N_far (p := ⟨gb162, 2, none⟩) (Kd.N_far (p := ⟨gb162, 1, none⟩) (Kd.N_far (p := ⟨gb162, 0, none⟩) (Kd.N_mono HO_170001.out (fun k_ hk => (⟨hk, hk.2.2.2.1⟩ : _ ∧ k_ ≠ gb162))) (fun _ hk => hk.2) (.slice Ao8 t163.length co8)) (fun _ hk => hk.2) (.slice Ao34 x1701_1.length co34)) (fun _ hk => hk.2) (.slice Ao7 t166.length co7)) (fun _ hk => hk.2) (.slice none 0 0)) (fun _ hk => ⟨hk.1.1, ⟨hk.1.2.1, ⟨hk.1.2.2.1, (by simp [Value.ownBlock])⟩⟩⟩), by (with_reducible repeat (first | apply Kd.N_alloc | apply Kd.N_drewN | apply Kd.N_drew)); exact Kd.N_mono (Kd.N_far (p := ⟨gb162, 3, none⟩) (Kd.N_far (p := ⟨gb162, 2, none⟩) (Kd.N_far (p := ⟨gb162, 1, none⟩) (Kd.N_far (p := ⟨gb162, 0, none⟩) (Kd.N_mono HO_170002.out (fun k_ hk => (⟨hk, hk.2.2.2.1⟩ : _ ∧ k_ ≠ gb162))) (fun _ hk => hk.2) (.slice Ao8 t163.length co8)) (fun _ hk => hk.2) (.slice Ao34 x1701_1.length co34)) (fun _ hk => hk.2) (.slice Ao7 t166.length co7)) (fun _ hk => hk.2) (.slice none 0 0)) (fun _ hk => ⟨hk.1.1, ⟨hk.1.2.1, ⟨hk.1.2.2.1, (by simp [Value.ownBlock])⟩⟩⟩), by first | exact Kd.R_nil _ _ _ _ _ | exact Kd.N_nil _ _ _ _ _ | exact Kd.V_nil _ _ _ _ _ | exact Kd.Q_nil _ _ _ _ _ | exact Kd.S_nil _ _ _ _ _, gB_ HB.out⟩
    ·replace c31 := Bool.eq_false_iff.mpr c31
     subst c31
     have H1 : (some (([] : List (List (S175))), ([] : List (S123)), ([] : List (List (S170))), ([] : List (S35)), false)) = some (r1, r2, r3, r4, r5) := by rw [if_neg (show ¬ (false = true) by decide)] at H; exact H
     clear H
     have H := H1
     clear H1
     simp only [Option.some.injEq, Prod.mk.injEq] at H
     obtain ⟨rfl, rfl, rfl, rfl, rfl⟩ := H
     have hnb38 := NB169_162.out
     have hnc38 := NB162_169.out
     have z_39 := bR4_ BK169.out
     obtain ⟨Ao40, co40, eo40⟩ := Kd.N_slice HO_170001.out
     subst eo40
     go_wp2_with (first | ((with_reducible refine gate_callee (f := 78) rfl ?_); refine gL_ (some 25) Try.func78 #[.agg #[.slice Ao8 t163.length co8, .slice Ao40 x1701_1.length co40, .slice Ao7 t166.length co7, .slice none 0 0]] ?_; (refine (spec_MachineOk.calls k1 _ _ t163 _ _ x1701_1 _ _ t166 _ _ ([] : List (S35)) false _ ?side1 ?side2 ?side3 ?side4 ?side5 ?side6 ?side7 ?side8 A30.out).mono ?_); (case side1 => exact cS_ (Kd.N_reads' HO_170000.out).2.2); (case side2 => exact (Kd.N_reads' HO_170000.out).2.1); (case side3 => exact cS_ (Kd.N_reads' HO_170001.out).2.2); (case side4 => exact (Kd.N_reads' HO_170001.out).2.1); (case side5 => exact cS_ (Kd.N_reads' HO_170002.out).2.2); (case side6 => exact (Kd.N_reads' HO_170002.out).2.1); (case side7 => exact Kd.C_nil _ _); (case side8 => exact Nat.le_refl _); rintro e w41 ⟨rfl, hb⟩; refine ⟨_, rfl, ?_⟩; replace HO_170000 := aM_ (Kd.N_below (by (with_reducible repeat (first | apply Kd.N_alloc | apply Kd.N_drewN | apply Kd.N_drew)); exact HO_170000.out) hb); replace HO_170001 := aM_ (Kd.N_below (by (with_reducible repeat (first | apply Kd.N_alloc | apply Kd.N_drewN | apply Kd.N_drew)); exact HO_170001.out) hb); replace HO_170002 := aM_ (Kd.N_below (by (with_reducible repeat (first | apply Kd.N_alloc | apply Kd.N_drewN | apply Kd.N_drew)); exact HO_170002.out) hb); replace BK162 := aM_ (nB_ BK162.out hb); replace BK169 := aM_ (nB_ BK169.out hb); replace HB := aM_ (sT_ HB.out hb); have z_42 := bR4_ BK162.out))
     refine bodyPost_ret (results_ct rfl _ _ gb162 59 #[.slice none 0 0, .slice none 0 0, .slice none 0 0, .slice none 0 0] (0, 0) _ rfl (by (with_reducible repeat (first | refine bN_ ?_ _ | refine bD_ ?_ | refine bA_ ?_ _)); refine blk_put (cs := #[.slice none 0 0, .slice none 0 0, .slice none 0 0, .slice none 0 0]) ?_ 3 _ rfl; refine blk_put (cs := #[.slice none 0 0, .slice none 0 0, .slice none 0 0, .slice none 0 0]) ?_ 2 _ rfl; refine blk_put (cs := #[.slice none 0 0, .slice none 0 0, .slice none 0 0, .slice none 0 0]) ?_ 1 _ rfl; refine blk_put (cs := #[.slice none 0 0, .slice none 0 0, .slice none 0 0, .slice none 0 0]) ?_ 0 _ rfl; exact rW_ BK162.out) Try.underlying59 rfl (by kernel_rfl)) rfl ?_
     exact ⟨_, _, _, _, fR_, by first | exact Kd.S_nil _ _ _ _ _ | exact Kd.N_nil _ _ _ _ _ | exact Kd.V_nil _ _ _ _ _ | exact Kd.Q_nil _ _ _ _ _ | exact Kd.R_nil _ _ _ _ _, by first | exact Kd.S_nil _ _ _ _ _ | exact Kd.N_nil _ _ _ _ _ | exact Kd.V_nil _ _ _ _ _ | exact Kd.Q_nil _ _ _ _ _ | exact Kd.R_nil _ _ _ _ _, by first | exact Kd.R_nil _ _ _ _ _ | exact Kd.N_nil _ _ _ _ _ | exact Kd.V_nil _ _ _ _ _ | exact Kd.Q_nil _ _ _ _ _ | exact Kd.S_nil _ _ _ _ _, by first | exact Kd.R_nil _ _ _ _ _ | exact Kd.N_nil _ _ _ _ _ | exact Kd.V_nil _ _ _ _ _ | exact Kd.Q_nil _ _ _ _ _ | exact Kd.S_nil _ _ _ _ _, gB_ HB.out⟩
def laws_toStep.f (a0_0 : Int) (a0_1 : Int) (a0_2 : Int) (a0_3 : Int) (a0_4 : Int) : Option (Int × Int × Int × Int × Int) := some (a0_0, a0_1, a0_2, a0_3, a0_4)
set_option maxHeartbeats 8000000 in
set_option maxRecDepth 100000 in
theorem laws_toStep.calls (a0_0 : Int) (a0_1 : Int) (a0_2 : Int) (a0_3 : Int) (a0_4 : Int) (r1 : Int) (r2 : Int) (r3 : Int) (r4 : Int) (r5 : Int) (w : World) (h : laws_toStep.f a0_0 a0_1 a0_2 a0_3 a0_4 = some (r1, r2, r3, r4, r5)) :
  Calls Try.prog 134 #[.agg #[.int .i64 a0_0, .int .i64 a0_1, .int .i64 a0_2, .int .i64 a0_3, .int .i64 a0_4]] w fun e w' => e = .returned (.agg #[.int .i64 r1, .int .i64 r2, .int .i64 r3, .int .i64 r4, .int .i64 r5]) ∧ Below w.heap.size w w' := by
 have hu177 := Try.underlying177
 have hu175 := Try.underlying175
 have HB := aM_ (Below.refl w.heap.size w)
 have H : (some (a0_0, a0_1, a0_2, a0_3, a0_4)) = some (r1, r2, r3, r4, r5) := h
 clear h
 simp only [Option.some.injEq, Prod.mk.injEq] at H
 obtain ⟨rfl, rfl, rfl, rfl, rfl⟩ := H
 go_enter Try.func134, Try.ntmps134
 go_wp2_with (first | ((with_reducible refine gate_dst (N := 1) rfl ?_); refine bX_ 1 (cs := #[.int .i64 a0_0, .int .i64 a0_1, .int .i64 a0_2, .int .i64 a0_3, .int .i64 a0_4]) (t := 177) ?_; intro gb180 hg w2 hbox hb; have BK180 := aM_ (hbox); have GE180 := aM_ (sZ_ hg HB.out); replace HB := aM_ (sT_ HB.out hb); clear hb hbox hg) | ((with_reducible refine gate_dst (N := 2) rfl ?_); refine bX_ 2 (cs := #[.int .i64 0, .int .i64 0, .int .i64 0, .int .i64 0, .int .i64 0]) (t := 175) ?_; intro gb181 hg w3 hbox hb; have BK181 := aM_ (hbox); have GE181 := aM_ (sZ_ hg HB.out); have NB180_181 := aM_ (nL_ hg BK180.out); have NB181_180 := aM_ (nG_ hg BK180.out); replace BK180 := aM_ (nB_ BK180.out hb); replace HB := aM_ (sT_ HB.out hb); clear hb hbox hg) | ((with_reducible refine gate_dst (N := 3) rfl ?_); refine bX_ 3 (cs := #[.int .i64 0, .int .i64 0, .int .i64 0, .int .i64 0, .int .i64 0]) (t := 175) ?_; intro gb182 hg w4 hbox hb; have BK182 := aM_ (hbox); have GE182 := aM_ (sZ_ hg HB.out); have NB180_182 := aM_ (nL_ hg BK180.out); have NB182_180 := aM_ (nG_ hg BK180.out); have NB181_182 := aM_ (nL_ hg BK181.out); have NB182_181 := aM_ (nG_ hg BK181.out); replace BK180 := aM_ (nB_ BK180.out hb); replace BK181 := aM_ (nB_ BK181.out hb); replace HB := aM_ (sT_ HB.out hb); clear hb hbox hg; have hnb5 := NB180_181.out; have hnc5 := NB181_180.out; have hnb6 := NB180_182.out; have hnc6 := NB182_180.out; have z_7 := bR5_ BK180.out; have hnb8 := NB182_181.out; have hnc8 := NB181_182.out; have z_9 := bR5_ BK182.out; have z_10 := bR5_ BK181.out))
 refine bodyPost_ret (results_cell_row rfl _ _ gb181 175 #[.int .i64 a0_0, .int .i64 a0_1, .int .i64 a0_2, .int .i64 a0_3, .int .i64 a0_4] (0, 0) _ rfl (by (with_reducible repeat (first | refine bN_ ?_ _ | refine bD_ ?_ | refine bA_ ?_ _)); refine blk_put (cs := #[.int .i64 a0_0, .int .i64 a0_1, .int .i64 a0_2, .int .i64 a0_3, .int .i64 0]) ?_ 4 _ rfl; refine blk_put (cs := #[.int .i64 a0_0, .int .i64 a0_1, .int .i64 a0_2, .int .i64 0, .int .i64 0]) ?_ 3 _ rfl; refine blk_put (cs := #[.int .i64 a0_0, .int .i64 a0_1, .int .i64 0, .int .i64 0, .int .i64 0]) ?_ 2 _ rfl; refine blk_put (cs := #[.int .i64 a0_0, .int .i64 0, .int .i64 0, .int .i64 0, .int .i64 0]) ?_ 1 _ rfl; refine blk_put (cs := #[.int .i64 0, .int .i64 0, .int .i64 0, .int .i64 0, .int .i64 0]) ?_ 0 _ rfl; exact rWf_ BK181.out) Try.underlying175 rfl (by kernel_rfl)) rfl ?_
 exact fI_ HB.out
def laws_toStepS.l0 : Nat → List (S177) → List (S175) → Int → Option ((List (S175)))
  | 0, _, _, _ => none
  | k + 1, x0, x3, x4 => if x4 < (x0.length : Int) then (if 0 ≤ x4 then ((laws_toStep.f ((rd_T177 x0 x4).f0) ((rd_T177 x0 x4).f1) ((rd_T177 x0 x4).f2) ((rd_T177 x0 x4).f3) ((rd_T177 x0 x4).f4)).bind fun bt187 => (if x4 < (x3.length : Int) then (laws_toStepS.l0 k x0 (x3.set (x4 : Int).toNat (⟨bt187.1, bt187.2.1, bt187.2.2.1, bt187.2.2.2.1, bt187.2.2.2.2⟩ : S175)) (wrap64 (x4 + 1))) else (none))) else (none)) else (some x3)
def laws_toStepS.f (k : Nat) (l0 : List (S177)) : Option ((List (S175))) := if 0 ≤ (l0.length : Int) then (if ((l0.length : Int) : Int).toNat ≤ 7036874417766 then (laws_toStepS.l0 k l0 (List.replicate ((l0.length : Int) : Int).toNat z175) 0) else (none)) else (none)
set_option maxHeartbeats 8000000 in
set_option maxRecDepth 100000 in
theorem laws_toStepS.calls (k : Nat) (A0 : Option Addr) (c0 : Nat) (l0 : List (S177)) (r : List (S175)) (w : World) (hr0 : Kd.C k177 w A0 l0.length l0) (hc0 : l0.length ≤ c0) (h : laws_toStepS.f k l0 = some r) :
  Calls Try.prog 79 #[.slice A0 l0.length c0] w fun e w' => ∃ v0_ : Value, e = .returned (v0_) ∧ Kd.R k175 175 w' w.heap.size (fun _ => True) v0_ r ∧ Below w.heap.size w w' := by
 have hu177 := Try.underlying177
 have hu175 := Try.underlying175
 have HR0 := aM_ hr0
 have HC0 := aM_ hc0
 clear hr0 hc0
 have HB := aM_ (Below.refl w.heap.size w)
 have H : (if 0 ≤ (l0.length : Int) then (if ((l0.length : Int) : Int).toNat ≤ 7036874417766 then (laws_toStepS.l0 k l0 (List.replicate ((l0.length : Int) : Int).toNat z175) 0) else (none)) else (none)) = some r := h
 clear h
 by_cases c2 : 0 ≤ (l0.length : Int)
 ·rw [if_pos c2] at H
  have c2b0 := eq_true c2
  have c2b1 : decide (0 ≤ (l0.length : Int)) = true := decide_eq_true c2
  clear c2
  by_cases c3 : ((l0.length : Int) : Int).toNat ≤ 7036874417766
  ·rw [if_pos c3] at H
   have c3b0 := eq_true c3
   have c3b1 : decide (((l0.length : Int) : Int).toNat ≤ 7036874417766) = true := decide_eq_true c3
   clear c3
   obtain ⟨y183, hy183⟩ : ∃ y_ : List (S175), y_ = (List.replicate ((l0.length : Int) : Int).toNat z175) := ⟨_, rfl⟩
   replace H : (laws_toStepS.l0 k l0 y183 0) = some r := by first | (rw [hy183]; with_reducible exact H) | (have H2_ := (Option.bind_some _ _).symm.trans H; rw [hy183]; with_reducible exact H2_) | (have H2_ := (Option.bind_some _ _).symm.trans H; with_reducible exact H2_) | with_reducible exact H | (rw [hy183]; exact H) | exact H
   have Ny183 := aM_ hy183
   clear hy183
   have H' := aM_ H
   clear H
   go_enter Try.func79, Try.ntmps79
   go_wp2_with (first | ((with_reducible refine gate_dst (N := 7) rfl ?_); refine Kd.R_make k175 _ 175 rfl (N := 7) rfl 125 _ _ rfl (l0.length : Int) rfl rfl Try.underlying125 (.agg #[(.int .i64 0), (.int .i64 0), (.int .i64 0), (.int .i64 0), (.int .i64 0)]) 40 info175 rfl (by decide) (by omega) z175 (ok := fun _ => True) (okp := fun _ => True) (k175_mkM _ _ _ z175 ) (fun _ hk => hk) trivial (of_decide_eq_true (by first | (with_reducible assumption) | assumption)) (Nat.le_trans (Nat.mul_le_mul_right _ (of_decide_eq_true (by first | (with_reducible assumption) | assumption) : (l0.length : Int).toNat ≤ 7036874417766)) (by omega)) (Below.refl _ _) (Nat.le_refl _) ?_; intro v184 w4 ho5 hb hg_ hnew_; clear hg_ hnew_; (first | rw [← Ny183.out] at ho5 | (simp only [Int.reduceToNat] at ho5; rw [← Ny183.out] at ho5)); have HO185 := aM_ (Kd.R_lower ho5 (below_size (gB_ HB.out))); replace HB := aM_ (sT_ HB.out hb); clear hb ho5))
   go_loopg [4] k (fun kq v4 w' => ∃ (x3_1 : List (S175)) (x4_1 : Int), v4 = .int .i64 x4_1 ∧ Aside0 (laws_toStepS.l0 kq l0 x3_1 x4_1 = some r) ∧ Aside0 (kq ≤ k) ∧ Aside0 (Kd.R k175 175 w' w.heap.size (fun _ => True) v184 x3_1) ∧ Aside0 (Below w.heap.size w w'))
   case atStart => exact ⟨(y183), (0), (by first | rfl | (simp; done) | (simp [*]; done)), H', ⟨Nat.le_refl _⟩, ⟨by (with_reducible repeat (first | apply rA_ | apply rN_ | apply rD_)); exact HO185.out⟩, ⟨gW_ HB.out⟩⟩
   case round =>
    clear H'
    try clear c2
    try clear c2b0
    try clear c2b1
    try clear p2
    try clear c3
    try clear c3b0
    try clear c3b1
    obtain ⟨x3_1, x4_1, rfl, HA, HK1, HO_3, HB⟩ := hrel
    cases gk with
    | zero => exact absurd HA.out (by simp [laws_toStepS.l0])
    | succ k1 =>
     have H := HA.out
     clear HA
     simp only [laws_toStepS.l0] at H
     by_cases c6 : x4_1 < (l0.length : Int)
     ·rw [if_pos c6] at H
      have c6b0 : decide (x4_1 < (l0.length : Int)) = true := decide_eq_true c6
      clear c6
      by_cases c7 : 0 ≤ x4_1
      ·rw [if_pos c7] at H
       have c7b0 : decide (0 ≤ x4_1) = true := decide_eq_true c7
       clear c7
       replace H := Option.bind_eq_some_iff.mp H
       obtain ⟨⟨t187, t188, t189, t190, t191⟩, A80, H⟩ := H
       replace H : (if x4_1 < (x3_1.length : Int) then (laws_toStepS.l0 k1 l0 (x3_1.set (x4_1 : Int).toNat (⟨t187, t188, t189, t190, t191⟩ : S175)) (wrap64 (x4_1 + 1))) else (none)) = some r := H
       have A8 := aM_ A80
       clear A80
       by_cases c9 : x4_1 < (x3_1.length : Int)
       ·rw [if_pos c9] at H
        have c9b0 : decide (x4_1 < (x3_1.length : Int)) = true := decide_eq_true c9
        clear c9
        obtain ⟨y192, hy192⟩ : ∃ y_ : List (S175), y_ = (x3_1.set (x4_1 : Int).toNat (⟨t187, t188, t189, t190, t191⟩ : S175)) := ⟨_, rfl⟩
        replace H : (laws_toStepS.l0 k1 l0 y192 (wrap64 (x4_1 + 1))) = some r := by first | (rw [hy192]; with_reducible exact H) | (have H2_ := (Option.bind_some _ _).symm.trans H; rw [hy192]; with_reducible exact H2_) | (have H2_ := (Option.bind_some _ _).symm.trans H; with_reducible exact H2_) | with_reducible exact H | (rw [hy192]; exact H) | exact H
        have Ny192 := aM_ hy192
        clear hy192
        have H' := aM_ H
        clear H
        have p186 : 0 ≤ (x4_1 : Int) := of_decide_eq_true (by first | (with_reducible assumption) | assumption)
        have q186 : x4_1 < (l0.length : Int) := of_decide_eq_true (by first | (with_reducible assumption) | assumption)
        obtain ⟨ad186, e186, hx186_0, hx186_1, hx186_2, hx186_3, hx186_4⟩ := at_T177 HR0.out x4_1 p186 q186
        cases e186
        replace hx186_0 := cB_ HB.out hx186_0
        replace hx186_1 := cB_ HB.out hx186_1
        replace hx186_2 := cB_ HB.out hx186_2
        replace hx186_3 := cB_ HB.out hx186_3
        replace hx186_4 := cB_ HB.out hx186_4
        replace p186 := eq_true p186
        replace q186 := eq_true q186
        go_wp2_with (first | ((with_reducible refine gate_callee (f := 134) rfl ?_); refine gL_ (some 20) Try.func134 #[.agg #[.int .i64 ((rd_T177 l0 x4_1).f0), .int .i64 ((rd_T177 l0 x4_1).f1), .int .i64 ((rd_T177 l0 x4_1).f2), .int .i64 ((rd_T177 l0 x4_1).f3), .int .i64 ((rd_T177 l0 x4_1).f4)]] ?_; (with_reducible refine (laws_toStep.calls ((rd_T177 l0 x4_1).f0) ((rd_T177 l0 x4_1).f1) ((rd_T177 l0 x4_1).f2) ((rd_T177 l0 x4_1).f3) ((rd_T177 l0 x4_1).f4) t187 t188 t189 t190 t191 _ A8.out).mono ?_); rintro e w11 ⟨rfl, hb⟩; refine ⟨_, rfl, ?_⟩; replace HO_3 := aM_ (bR_ HO_3.out hb); replace HB := aM_ (sT_ HB.out hb); have p10 : 0 ≤ (x4_1 : Int) := of_decide_eq_true (by first | (with_reducible assumption) | assumption); have q10 : (x4_1 : Int) < ((x3_1.length : Int) : Int) := of_decide_eq_true (by first | (with_reducible assumption) | assumption); obtain ⟨go10, co10, eo10, gb10, gl10, cl10, HG10⟩ := Kd.R_form HO_3.out (by omega); (first | cases eo10 | (injection eo10 with ea_ en_ ec_; (first | subst ea_ | (injection ea_ with ea_; subst ea_)); subst ec_; clear en_)); have GB10 := aM_ gb10; have GG10 := aM_ HG10; clear gb10 gl10 HG10; obtain ⟨ce10, hcl10, hM10, hcc10, hfr10⟩ := Kd.R_elem HO_3.out z175 (x4_1 : Int) p10 q10; obtain rfl := k175_openM hM10; have hx10_0 : w11.cell? ⟨go10, (x4_1 : Int).toNat * 5, none⟩ = some (.int .i64 ((rd_T175 x3_1 x4_1).f0)) := hcc10 0 _ rfl; have hx10_1 : w11.cell? ⟨go10, (x4_1 : Int).toNat * 5 + 1, none⟩ = some (.int .i64 ((rd_T175 x3_1 x4_1).f1)) := hcc10 1 _ rfl; have hx10_2 : w11.cell? ⟨go10, (x4_1 : Int).toNat * 5 + 2, none⟩ = some (.int .i64 ((rd_T175 x3_1 x4_1).f2)) := hcc10 2 _ rfl; have hx10_3 : w11.cell? ⟨go10, (x4_1 : Int).toNat * 5 + 3, none⟩ = some (.int .i64 ((rd_T175 x3_1 x4_1).f3)) := hcc10 3 _ rfl; have hx10_4 : w11.cell? ⟨go10, (x4_1 : Int).toNat * 5 + 4, none⟩ = some (.int .i64 ((rd_T175 x3_1 x4_1).f4)) := hcc10 4 _ rfl; have hf10_0 : w11.frozen? ⟨go10, (x4_1 : Int).toNat * 5, none⟩ = false := hfr10 0; have hf10_1 : w11.frozen? ⟨go10, (x4_1 : Int).toNat * 5 + 1, none⟩ = false := hfr10 1; have hf10_2 : w11.frozen? ⟨go10, (x4_1 : Int).toNat * 5 + 2, none⟩ = false := hfr10 2; have hf10_3 : w11.frozen? ⟨go10, (x4_1 : Int).toNat * 5 + 3, none⟩ = false := hfr10 3; have hf10_4 : w11.frozen? ⟨go10, (x4_1 : Int).toNat * 5 + 4, none⟩ = false := hfr10 4; (try clear hcl10); (try clear hcc10); (try clear hfr10); (try clear hM10); replace p10 := eq_true p10; replace q10 := eq_true q10; have HX12 := aM_ (show Kd.R k175 175 w11 w.heap.size (fun _ => True) (.slice (some ⟨go10, 0, none⟩) x3_1.length co10) x3_1 from (by (with_reducible repeat (first | apply rA_ | apply rN_ | apply rD_)); exact HO_3.out)); obtain ⟨ce12, hcl12, hM12, hcc12, hfr12⟩ := Kd.R_elem HX12.out z175 (x4_1 : Int) (of_decide_eq_true (by first | (with_reducible assumption) | assumption)) (by have h_ : (x4_1 : Int) < ((x3_1.length : Int) : Int) := of_decide_eq_true (by first | (with_reducible assumption) | assumption); first | exact h_ | (have e_ := (Kd.R_reads' HO_3.out).1; omega) | simpa using h_); obtain rfl := k175_openM hM12; have HP12 := Kd.R_seg HX12.out (x4_1 : Int) (of_decide_eq_true (by first | (with_reducible assumption) | assumption)) (by have h_ : (x4_1 : Int) < ((x3_1.length : Int) : Int) := of_decide_eq_true (by first | (with_reducible assumption) | assumption); first | exact h_ | (have e_ := (Kd.R_reads' HO_3.out).1; omega) | simpa using h_) (seg := [.int .i64 t187, .int .i64 t188, .int .i64 t189, .int .i64 t190, .int .i64 t191]) (j := 0) hcl12 hcc12 (show 5 ≤ 5 from by decide) (x' := (⟨t187, t188, t189, t190, t191⟩ : S175)) (k175_mkM _ _ _ (⟨t187, t188, t189, t190, t191⟩ : S175) ) (fun _ hk => hk); have hx12_0 := hcc12 0 _ rfl; (try simp only [show (k175).sz = 5 from rfl, Nat.mul_one, Nat.add_zero] at hx12_0); have hf12_0 := hfr12 0; (try simp only [show (k175).sz = 5 from rfl, Nat.mul_one, Nat.add_zero] at hf12_0); have hx12_1 := hcc12 1 _ rfl; (try simp only [show (k175).sz = 5 from rfl, Nat.mul_one, Nat.add_zero] at hx12_1); have hf12_1 := hfr12 1; (try simp only [show (k175).sz = 5 from rfl, Nat.mul_one, Nat.add_zero] at hf12_1); have hx12_2 := hcc12 2 _ rfl; (try simp only [show (k175).sz = 5 from rfl, Nat.mul_one, Nat.add_zero] at hx12_2); have hf12_2 := hfr12 2; (try simp only [show (k175).sz = 5 from rfl, Nat.mul_one, Nat.add_zero] at hf12_2); have hx12_3 := hcc12 3 _ rfl; (try simp only [show (k175).sz = 5 from rfl, Nat.mul_one, Nat.add_zero] at hx12_3); have hf12_3 := hfr12 3; (try simp only [show (k175).sz = 5 from rfl, Nat.mul_one, Nat.add_zero] at hf12_3); have hx12_4 := hcc12 4 _ rfl; (try simp only [show (k175).sz = 5 from rfl, Nat.mul_one, Nat.add_zero] at hx12_4); have hf12_4 := hfr12 4; (try simp only [show (k175).sz = 5 from rfl, Nat.mul_one, Nat.add_zero] at hf12_4); (try clear hcl12); (try clear hcc12); (try clear hfr12); (try clear hM12)) | ((with_reducible refine gate_store (t := 175) (p := 21) rfl ?_); refine store_event (t := 175) (p := 21) (v := ?vo_w13) (w1 := (((((w11.setCell ⟨go10, (x4_1 : Int).toNat * 5, none⟩ (.int .i64 t187)).setCell ⟨go10, (x4_1 : Int).toNat * 5 + 1, none⟩ (.int .i64 t188)).setCell ⟨go10, (x4_1 : Int).toNat * 5 + 2, none⟩ (.int .i64 t189)).setCell ⟨go10, (x4_1 : Int).toNat * 5 + 3, none⟩ (.int .i64 t190)).setCell ⟨go10, (x4_1 : Int).toNat * 5 + 4, none⟩ (.int .i64 t191))) ?hg ?ho ?hn ?hr ?_; (case ho => rfl); (case hg => rfl); (case hn => rfl); (case hr => first | (go_simp; done) | (go_simp; rfl)); intro w13 hw; have hg : w11.grownBy w13 (some go10) := (by rw [hw]; exact HP12.2); have hp_ : Kd.R k175 175 w13 w.heap.size (fun _ => True) (.slice (some ⟨go10, 0, none⟩) x3_1.length co10) y192 := (by rw [hw, Ny192.out]; exact HP12.1); clear HP12; replace HO_3 := aM_ (hp_); replace HB := aM_ ((by rw [hw]; exact below_set (below_set (below_set (below_set (below_set (HB.out) GB10.out) GB10.out) GB10.out) GB10.out) GB10.out : Below w.heap.size w w13)); clear hg hw hp_))
        go_roundg k1
        case measure => have := HK1.out; omega
        case rel => exact ⟨(y192), (wrap64 (x4_1 + 1)), (by first | rfl | (simp; done) | (simp [*]; done)), H', ⟨by have := HK1.out; omega⟩, ⟨by (with_reducible repeat (first | apply rA_ | apply rN_ | apply rD_)); exact HO_3.out⟩, ⟨gW_ HB.out⟩⟩
       ·rw [if_neg c9] at H
        exact absurd H (by simp)
      ·rw [if_neg c7] at H
       exact absurd H (by simp)
     ·rw [if_neg c6] at H
      have c6b0 : decide (x4_1 < (l0.length : Int)) = false := decide_eq_false c6
      clear c6
      obtain rfl := Option.some.inj H
      go_wp2
      go_ret
      exact ⟨_, fR_, by (with_reducible repeat (first | apply rA_ | apply rN_ | apply rD_)); exact HO_3.out, gB_ HB.out⟩
  ·rw [if_neg c3] at H
   exact absurd H (by simp)
 ·rw [if_neg c2] at H
  exact absurd H (by simp)
def laws_toStepSS.l0 : Nat → List (List (S177)) → List (List (S175)) → Int → Option ((List (List (S175))))
  | 0, _, _, _ => none
  | k + 1, x0, x3, x4 => if x4 < (x0.length : Int) then (if 0 ≤ x4 then ((laws_toStepS.f k (rd_L2 x0 x4)).bind fun t197 => (if x4 < (x3.length : Int) then (laws_toStepSS.l0 k x0 (x3.set (x4 : Int).toNat t197) (wrap64 (x4 + 1))) else (none))) else (none)) else (some x3)
def laws_toStepSS.f (k : Nat) (l0 : List (List (S177))) : Option ((List (List (S175)))) := if 0 ≤ (l0.length : Int) then (if ((l0.length : Int) : Int).toNat ≤ 11728124029610 then (laws_toStepSS.l0 k l0 (List.replicate ((l0.length : Int) : Int).toNat []) 0) else (none)) else (none)
set_option maxHeartbeats 8000000 in
set_option maxRecDepth 100000 in
theorem laws_toStepSS.calls (k : Nat) (A0 : Option Addr) (c0 : Nat) (l0 : List (List (S177))) (r : List (List (S175))) (w : World) (hr0 : Kd.C (Kd.slice 177 k177) w A0 l0.length l0) (hc0 : l0.length ≤ c0) (h : laws_toStepSS.f k l0 = some r) :
  Calls Try.prog 26 #[.slice A0 l0.length c0] w fun e w' => ∃ v0_ : Value, e = .returned (v0_) ∧ Kd.S (Kd.slice 175 k175) 125 w' w.heap.size (fun _ => True) v0_ r ∧ Below w.heap.size w w' := by
 have HR0 := aM_ hr0
 have HC0 := aM_ hc0
 clear hr0 hc0
 have HB := aM_ (Below.refl w.heap.size w)
 have H : (if 0 ≤ (l0.length : Int) then (if ((l0.length : Int) : Int).toNat ≤ 11728124029610 then (laws_toStepSS.l0 k l0 (List.replicate ((l0.length : Int) : Int).toNat []) 0) else (none)) else (none)) = some r := h
 clear h
 by_cases c2 : 0 ≤ (l0.length : Int)
 ·rw [if_pos c2] at H
  have c2b0 := eq_true c2
  have c2b1 : decide (0 ≤ (l0.length : Int)) = true := decide_eq_true c2
  clear c2
  by_cases c3 : ((l0.length : Int) : Int).toNat ≤ 11728124029610
  ·rw [if_pos c3] at H
   have c3b0 := eq_true c3
   have c3b1 : decide (((l0.length : Int) : Int).toNat ≤ 11728124029610) = true := decide_eq_true c3
   clear c3
   obtain ⟨y193, hy193⟩ : ∃ y_ : List (List (S175)), y_ = (List.replicate ((l0.length : Int) : Int).toNat []) := ⟨_, rfl⟩
   replace H : (laws_toStepSS.l0 k l0 y193 0) = some r := by first | (rw [hy193]; with_reducible exact H) | (have H2_ := (Option.bind_some _ _).symm.trans H; rw [hy193]; with_reducible exact H2_) | (have H2_ := (Option.bind_some _ _).symm.trans H; with_reducible exact H2_) | with_reducible exact H | (rw [hy193]; exact H) | exact H
   have Ny193 := aM_ hy193
   clear hy193
   have H' := aM_ H
   clear H
   go_enter Try.func26, Try.ntmps26
   go_wp2_with (first | ((with_reducible refine gate_dst (N := 7) rfl ?_); refine Kd.S_make (Kd.slice 175 k175) _ 125 rfl (N := 7) rfl 53 _ _ rfl (l0.length : Int) rfl rfl Try.underlying53 (.slice none 0 0) 24 info125 rfl (by decide) (by omega) [] (ok := fun _ => True) (okp := fun _ => True) ⟨_, rfl, Kd.R_nil _ _ _ _ _⟩ (fun _ hk => hk) trivial (of_decide_eq_true (by first | (with_reducible assumption) | assumption)) (Nat.le_trans (Nat.mul_le_mul_right _ (of_decide_eq_true (by first | (with_reducible assumption) | assumption) : (l0.length : Int).toNat ≤ 11728124029610)) (by omega)) (Below.refl _ _) (Nat.le_refl _) ?_; intro v194 w4 ho5 hb hg_ hnew_; clear hg_ hnew_; (first | rw [← Ny193.out] at ho5 | (simp only [Int.reduceToNat] at ho5; rw [← Ny193.out] at ho5)); have HO195 := aM_ (Kd.S_lower ho5 (below_size (gB_ HB.out))); replace HB := aM_ (sT_ HB.out hb); clear hb ho5))
   go_loopg [4] k (fun kq v4 w' => ∃ (x3_1 : List (List (S175))) (x4_1 : Int), v4 = .int .i64 x4_1 ∧ Aside0 (laws_toStepSS.l0 kq l0 x3_1 x4_1 = some r) ∧ Aside0 (kq ≤ k) ∧ Aside0 (Kd.S (Kd.slice 175 k175) 125 w' w.heap.size (fun _ => True) v194 x3_1) ∧ Aside0 (Below w.heap.size w w'))
   case atStart => exact ⟨(y193), (0), (by first | rfl | (simp; done) | (simp [*]; done)), H', ⟨Nat.le_refl _⟩, ⟨by (with_reducible repeat (first | apply Kd.S_alloc | apply Kd.S_drewN | apply Kd.S_drew)); exact HO195.out⟩, ⟨gW_ HB.out⟩⟩
   case round =>
    clear H'
    try clear c2
    try clear c2b0
    try clear c2b1
    try clear p2
    try clear c3
    try clear c3b0
    try clear c3b1
    obtain ⟨x3_1, x4_1, rfl, HA, HK1, HO_3, HB⟩ := hrel
    cases gk with
    | zero => exact absurd HA.out (by simp [laws_toStepSS.l0])
    | succ k1 =>
     have H := HA.out
     clear HA
     simp only [laws_toStepSS.l0] at H
     by_cases c6 : x4_1 < (l0.length : Int)
     ·rw [if_pos c6] at H
      have c6b0 : decide (x4_1 < (l0.length : Int)) = true := decide_eq_true c6
      clear c6
      by_cases c7 : 0 ≤ x4_1
      ·rw [if_pos c7] at H
       have c7b0 : decide (0 ≤ x4_1) = true := decide_eq_true c7
       clear c7
       replace H := Option.bind_eq_some_iff.mp H
       obtain ⟨t197, A80, H⟩ := H
       replace H : (if x4_1 < (x3_1.length : Int) then (laws_toStepSS.l0 k1 l0 (x3_1.set (x4_1 : Int).toNat t197) (wrap64 (x4_1 + 1))) else (none)) = some r := H
       have A8 := aM_ A80
       clear A80
       by_cases c9 : x4_1 < (x3_1.length : Int)
       ·rw [if_pos c9] at H
        have c9b0 : decide (x4_1 < (x3_1.length : Int)) = true := decide_eq_true c9
        clear c9
        obtain ⟨y200, hy200⟩ : ∃ y_ : List (List (S175)), y_ = (x3_1.set (x4_1 : Int).toNat t197) := ⟨_, rfl⟩
        replace H : (laws_toStepSS.l0 k1 l0 y200 (wrap64 (x4_1 + 1))) = some r := by first | (rw [hy200]; with_reducible exact H) | (have H2_ := (Option.bind_some _ _).symm.trans H; rw [hy200]; with_reducible exact H2_) | (have H2_ := (Option.bind_some _ _).symm.trans H; with_reducible exact H2_) | with_reducible exact H | (rw [hy200]; exact H) | exact H
        have Ny200 := aM_ hy200
        clear hy200
        have H' := aM_ H
        clear H
        have p196 : 0 ≤ (x4_1 : Int) := of_decide_eq_true (by first | (with_reducible assumption) | assumption)
        have q196 : x4_1 < (l0.length : Int) := of_decide_eq_true (by first | (with_reducible assumption) | assumption)
        obtain ⟨ad196, A196_0, c196_0, e196, hx196_0, hl196_0, hi196_0⟩ := at_L2 HR0.out x4_1 p196 q196
        cases e196
        replace hx196_0 := cB_ HB.out hx196_0
        have HR196_0 := aM_ hi196_0
        have HC196_0 := aM_ hl196_0
        clear hi196_0 hl196_0
        replace p196 := eq_true p196
        replace q196 := eq_true q196
        go_wp2_with (first | ((with_reducible refine gate_callee (f := 79) rfl ?_); refine gL_ (some 20) Try.func79 #[.slice A196_0 (rd_L2 l0 x4_1).length c196_0] ?_; (with_reducible refine (laws_toStepS.calls k1 _ _ (rd_L2 l0 x4_1) t197 _ ?side1 ?side2 A8.out).mono ?_); (case side1 => exact cS_ (Kd.C_below HR196_0.out HB.out)); (case side2 => exact HC196_0.out); rintro e w11 ⟨v198, rfl, ho0, hb⟩; refine ⟨_, rfl, ?_⟩; have HO199 := aM_ (Kd.R_lower ho0 (below_size (gB_ HB.out))); replace HO_3 := aM_ (Kd.S_elder' (by (with_reducible repeat (first | apply Kd.S_alloc | apply Kd.S_drewN | apply Kd.S_drew)); exact HO_3.out) (Kd.R_base ho0) hb); replace HB := aM_ (sT_ HB.out hb); (try clear ho0); have p10 : 0 ≤ (x4_1 : Int) := of_decide_eq_true (by first | (with_reducible assumption) | assumption); have q10 : (x4_1 : Int) < ((x3_1.length : Int) : Int) := of_decide_eq_true (by first | (with_reducible assumption) | assumption); obtain ⟨go10, co10, eo10, gb10, gl10, cl10, HG10⟩ := Kd.S_form HO_3.out (by omega); (first | cases eo10 | (injection eo10 with ea_ en_ ec_; (first | subst ea_ | (injection ea_ with ea_; subst ea_)); subst ec_; clear en_)); have GB10 := aM_ gb10; have GG10 := aM_ HG10; clear gb10 gl10 HG10; obtain ⟨_, ce10, hcl10, hM10, hcc10, hfr10, _, _⟩ := Kd.S_elem HO_3.out [] (x4_1 : Int) p10 q10; obtain ⟨ve10_0, rfl, ge10_0⟩ := hM10; have hx10_0 := hcc10 0 _ rfl; have hf10_0 := hfr10 0; (try simp only [show ((Kd.slice 175 k175)).sz = 1 from rfl, Nat.mul_one, Nat.add_zero] at hx10_0); (try simp only [show ((Kd.slice 175 k175)).sz = 1 from rfl, Nat.mul_one, Nat.add_zero] at hf10_0); (try clear hcl10); (try clear hcc10); (try clear hfr10); (try clear hM10); replace p10 := eq_true p10; replace q10 := eq_true q10; have n_ := aM_ (Kd.S_mono (ok' := (fun k_ => some k_ ≠ (v198 : Value).ownBlock)) HO_3.out (fun k_ hk => hk.2)); clear HO_3; have HO_3 := n_; clear n_; have HX12 := aM_ (show Kd.S (Kd.slice 175 k175) 125 w11 w.heap.size (fun k_ => ((fun _ => True)) k_ ∧ ¬ ((fun k_ => some k_ = (v198 : Value).ownBlock)) k_) (.slice (some ⟨go10, 0, none⟩) x3_1.length co10) x3_1 from (by (with_reducible repeat (first | apply Kd.S_alloc | apply Kd.S_drewN | apply Kd.S_drew)); exact Kd.S_mono HO_3.out (fun k_ hk => ⟨trivial, fun e_ => hk e_⟩))); obtain ⟨oki12, ce12, hcl12, hM12, hcc12, hfr12, hoki12, hH12⟩ := Kd.S_elem HX12.out [] (x4_1 : Int) (of_decide_eq_true (by first | (with_reducible assumption) | assumption)) (by have h_ : (x4_1 : Int) < ((x3_1.length : Int) : Int) := of_decide_eq_true (by first | (with_reducible assumption) | assumption); first | exact h_ | (have e_ := (Kd.S_reads' HO_3.out).1; omega) | simpa using h_); obtain ⟨ve12_0, rfl, ge12_0⟩ := hM12; have HP12 := Kd.S_seg hH12 (of_decide_eq_true (by first | (with_reducible assumption) | assumption)) (by have h_ : (x4_1 : Int) < ((x3_1.length : Int) : Int) := of_decide_eq_true (by first | (with_reducible assumption) | assumption); first | exact h_ | (have e_ := (Kd.S_reads' HO_3.out).1; omega) | simpa using h_) (seg := [v198]) (j := 0) (show 1 ≤ 1 from by decide) (x' := t197) (Kd.M_row (Kd.R_mono (Kd.R_tight rfl (Kd.R_mono (ok' := fun k_ => ((fun _ => True)) k_ ∧ k_ ≠ go10) (Kd.R_apart' (HO199.out) (Kd.S_typed HO_3.out) (by decide)) (fun k_ hk => ⟨trivial, fun e_ => (hk.2) (by rw [e_]; rfl)⟩))) (fun _ h_ => Or.inr (h_)))) (fun _ hk => hk) (fun k_ hk_ => ((Kd.R_mono (ok' := fun k_ => ((fun _ => True)) k_ ∧ k_ ≠ go10) (Kd.R_apart' (HO199.out) (Kd.S_typed HO_3.out) (by decide)) (fun k_ hk => ⟨trivial, fun e_ => (hk.2) (by rw [e_]; rfl)⟩))).1 k_ hk_.symm); have hx12_0 := hcc12 0 _ rfl; (try simp only [show ((Kd.slice 175 k175)).sz = 1 from rfl, Nat.mul_one, Nat.add_zero] at hx12_0); have hf12_0 := hfr12 0; (try simp only [show ((Kd.slice 175 k175)).sz = 1 from rfl, Nat.mul_one, Nat.add_zero] at hf12_0); (try clear hcl12); (try clear hcc12); (try clear hfr12); (try clear hM12); (try clear hoki12); (try clear hH12); (try simp only [show ((Kd.slice 175 k175)).sz = 1 from rfl, Nat.mul_one, Nat.add_zero] at HP12)) | ((with_reducible refine gate_store (t := 125) (p := 21) rfl ?_); refine store_event (t := 125) (p := 21) (v := ?vo_w13) (w1 := (w11.setCell ⟨go10, (x4_1 : Int).toNat, none⟩ (v198))) ?hg ?ho ?hn ?hr ?_; (case ho => rfl); (case hg => rfl); (case hn => rfl); (case hr => first | (go_simp; done) | (go_simp; rfl) | (obtain ⟨_, _, e_⟩ := Kd.R_slice HO199.out; rw [e_]; first | (go_simp; done) | (go_simp; rfl)) | (obtain ⟨_, _, e_⟩ := Kd.S_slice HO199.out; rw [e_]; first | (go_simp; done) | (go_simp; rfl)) | (obtain ⟨_, _, e_⟩ := Kd.Q_slice HO199.out; rw [e_]; first | (go_simp; done) | (go_simp; rfl)) | (obtain ⟨_, _, e_⟩ := Kd.N_slice HO199.out; rw [e_]; first | (go_simp; done) | (go_simp; rfl))); intro w13 hw; have hg : w11.grownBy w13 (some go10) := (by rw [hw]; exact HP12.2); have hp_ : Kd.S (Kd.slice 175 k175) 125 w13 w.heap.size (fun _ => True) (.slice (some ⟨go10, 0, none⟩) x3_1.length co10) y200 := (by rw [hw, Ny200.out]; exact HP12.1); clear HP12; replace HO_3 := aM_ (hp_); replace HB := aM_ ((by rw [hw]; exact below_set (HB.out) GB10.out : Below w.heap.size w w13)); clear HO199; clear hg hw hp_))
        go_roundg k1
        case measure => have := HK1.out; omega
        case rel => exact ⟨(y200), (wrap64 (x4_1 + 1)), (by first | rfl | (simp; done) | (simp [*]; done)), H', ⟨by have := HK1.out; omega⟩, ⟨by (with_reducible repeat (first | apply Kd.S_alloc | apply Kd.S_drewN | apply Kd.S_drew)); exact HO_3.out⟩, ⟨gW_ HB.out⟩⟩
       ·rw [if_neg c9] at H
        exact absurd H (by simp)
      ·rw [if_neg c7] at H
       exact absurd H (by simp)
     ·rw [if_neg c6] at H
      have c6b0 : decide (x4_1 < (l0.length : Int)) = false := decide_eq_false c6
      clear c6
      obtain rfl := Option.some.inj H
      go_wp2
      go_ret
      exact ⟨_, fR_, by (with_reducible repeat (first | apply Kd.S_alloc | apply Kd.S_drewN | apply Kd.S_drew)); exact HO_3.out, gB_ HB.out⟩
  ·rw [if_neg c3] at H
   exact absurd H (by simp)
 ·rw [if_neg c2] at H
  exact absurd H (by simp)
end Go.Proofs.Ytobachfngmpeiaa.PFnExactMachineNew
namespace Go.Proofs.Ytobachfngmpeiaa.PFnExactMachineNew
open Go.RowKit Go.Proofs.YtobachfngmpeiaaW.PrintWords Go.Proofs.YtobachfngmpeiaaW.PrintLast Go.Proofs.YtobachfngmpeiaaW.PrintMore Go.Proofs.Ytobachfngmpeiaa.Marks
set_option linter.unusedVariables false
set_option linter.unusedSimpArgs false
def wt175 (x : S175) : Nat := (fun q : _ => 1 + (1 + (1 + (1 + (1))))) ((x.f0, x.f1, x.f2, x.f3, x.f4))
def wt170 (x : S170) : Nat := (fun q : _ => 1 + (wsum (fun _ => 1) (q.2))) ((x.f0, x.f1))
def wt123 (x : S123) : Nat := (fun q : _ => 1 + (wsum (fun _ => 1) (q.2.1) + (wsum (fun _ => 1) (q.2.2.1) + (1)))) ((x.f0, x.f1, x.f2, x.f3))
def wt35 (x : S35) : Nat := (fun q : _ => 1 + (1)) ((x.f0, x.f1))
def laws_FnExactMachineNew.f (k : Nat) (l0 : List (List (S177))) : Option Bool := (laws_szStepSS.f k l0 1048576).bind fun t1 => if t1 < 0 then some true else (laws_toStepSS.f k l0).bind fun t2 => (spec_MachineNew.f k t2).bind fun bA3 => (laws_toStepSS.f k l0).bind fun t8 => (impl_MachineNew.f k t8).bind fun bA7 => if bA7.2.2.2.2 = bA3.2.2.2.2 then (laws_eqMachine.f k bA7.1 bA7.2.1 bA7.2.2.1 bA7.2.2.2.1 bA3.1 bA3.2.1 bA3.2.2.1 bA3.2.2.2.1).bind fun eA10 => if eA10 = true then (laws_toStepSS.f k l0).bind fun t14 => (laws_eqStepSS.f k t8 t14).bind fun eA12 => if eA12 = true then if wsum (wsum wt175) t8 ≤ 1152921504606846976 then (laws_eqMachine.f k bA7.1 bA7.2.1 bA7.2.2.1 bA7.2.2.2.1 bA3.1 bA3.2.1 bA3.2.2.1 bA3.2.2.2.1).bind fun eA14 => if eA14 = true then if wsum (wsum wt175) bA7.1 + wsum wt123 bA7.2.1 + wsum (wsum wt170) bA7.2.2.1 + wsum wt35 bA7.2.2.2.1 ≤ 1152921504606846976 then (laws_toStepSS.f k l0).bind fun t15 => (impl_MachineNew.f k t15).bind fun bA18 => if bA18.2.2.2.2 = bA3.2.2.2.2 then (laws_eqMachine.f k bA18.1 bA18.2.1 bA18.2.2.1 bA18.2.2.2.1 bA3.1 bA3.2.1 bA3.2.2.1 bA3.2.2.2.1).bind fun eA21 => if eA21 = true then some true else some false else some false else none else some false else none else some false else some false else some false
end Go.Proofs.Ytobachfngmpeiaa.PFnExactMachineNew
