/- A part of the proof that the law FnExactMachineNew holds for every input. -/
import Derived.Test.YtobachfngmpeiaaZFnExactMachineNewa6
import Derived.Test.YtobachfngmpeiaaZFnExactMachineNewa10
import Derived.Test.YtobachfngmpeiaaZFnExactMachineNews
namespace Go.Proofs.Ytobachfngmpeiaa.PFnExactMachineNew
open Go.RowKit Go.Proofs.YtobachfngmpeiaaW.PrintWords Go.Proofs.YtobachfngmpeiaaW.PrintLast Go.Proofs.YtobachfngmpeiaaW.PrintMore Go.Proofs.Ytobachfngmpeiaa.SepMark
attribute [local go_sem] max2_int min2_int max_two min_two max_three min_three max_four min_four
set_option linter.unusedVariables false
set_option linter.unusedSimpArgs false
def impl_MachineNew.l0 : Nat → List (List (S175)) → Int → Int → List (List (S175)) → List (S123) → List (List (S170)) → Option ((List (List (S175))) × (List (S123)) × (List (List (S170))) × (List (S35)) × Bool)
  | 0, _, _, _, _, _, _ => none
  | k + 1, x9, x10, x11, x264000, x264001, x264002 => if x11 < x10 then (if 0 ≤ x11 then (if x11 < (x9.length : Int) then ((some (([] : List (S175)) : List (S175))).bind fun y265 => (if y265.length + (rd_L4 x9 x11).length < 3518437208883 then (if x264000.length < 5864062014805 then (if 8 ≤ 35184372088832 then (if 24 ≤ 35184372088832 then (if x264001.length < 2199023255552 then (impl_MachineNew.l0 k x9 x10 (wrap64 (x11 + 1)) (x264000 ++ [(y265 ++ (rd_L4 x9 x11))]) (x264001 ++ [(⟨0, (List.replicate 8 0), (List.replicate 24 0), 0⟩ : S123)]) x264002) else (none)) else (none)) else (none)) else (none)) else (none))) else (none)) else (none)) else ((impl_MachineOk.f k x264000 x264001 x264002 ([] : List (S35))).bind fun t283 => (if t283 = true then (some (x264000, x264001, x264002, ([] : List (S35)), true)) else (some (([] : List (List (S175))), ([] : List (S123)), ([] : List (List (S170))), ([] : List (S35)), false))))
def impl_MachineNew.f (k : Nat) (l0 : List (List (S175))) : Option ((List (List (S175))) × (List (S123)) × (List (List (S170))) × (List (S35)) × Bool) := (impl_MemoryNew.f k).bind fun t260 => (impl_MachineNew.l0 k l0 (l0.length : Int) 0 ([] : List (List (S175))) ([] : List (S123)) t260)
set_option maxHeartbeats 8000000 in
set_option maxRecDepth 100000 in
theorem impl_MachineNew.calls (k : Nat) (A0 : Option Addr) (c0 : Nat) (l0 : List (List (S175))) (r1 : List (List (S175))) (r2 : List (S123)) (r3 : List (List (S170))) (r4 : List (S35)) (r5 : Bool) (w : World) (hr0 : Kd.C (Kd.slice 175 k175) w A0 l0.length l0) (hc0 : l0.length ≤ c0) (h : impl_MachineNew.f k l0 = some (r1, r2, r3, r4, r5)) :
    Calls Try.prog 27 #[.slice A0 l0.length c0] w fun e w' => ∃ v0_ v1_ v2_ v3_ : Value, ∃ m0_ : Nat, e = .returned (.tuple #[.agg #[v0_, v1_, v2_, v3_], .bool r5]) ∧ Kd.S (sslice 175 k175) 125 w' w.heap.size (fun _ => True) v0_ r1 ∧ Kd.S kS123 123 w' w.heap.size (fun k_ => m0_ ≤ k_) v1_ r2 ∧ Kd.S (sslice 170 k170) 171 w' w.heap.size (fun k_ => k_ < m0_) v2_ r3 ∧ Kd.R k35 35 w' w.heap.size (fun _ => True) v3_ r4 ∧ Below w.heap.size w w' := by
  unfold impl_MachineNew.f at h
  replace h := Option.bind_eq_some_iff.mp h
  obtain ⟨t260, hA, h⟩ := h
  try dsimp only at h
  have hu59 := Try.underlying59
  have hu123 := Try.underlying123
  have HR0 := Aside0.mk hr0
  have HC0 := Aside0.mk hc0
  have A2 := Aside0.mk hA
  have H' := Aside0.mk h
  have ST := Aside0.mk (NM.start w)
  clear hr0 hc0 hA h
  go_enter Try.func27, Try.ntmps27
  go_wp2_with (first | ((with_reducible refine gate_dst (N := 2) rfl ?_); refine box_event ?hg (N := 2) ?hd (cs := #[.slice none 0 0, .slice none 0 0, .slice none 0 0, .slice none 0 0]) (t := 59) ?hr ?_; (case hd => rfl); (case hg => rfl); (case hr => first | (go_simp; done) | (go_simp; rfl)); intro gb1 hg w1 hbox hb; replace ST := Aside0.mk (ST.out.box hg hbox hb); clear hg hbox hb; replace zc1 := cel4 (ST.out.bk 0 rfl)) | ((with_reducible refine gate_callee (f := 80) rfl ?_); refine goesL_ (some 7) rfl rfl Try.func80 (by kernel_rfl) rfl #[] rfl (by (try simp only [List.map_toArray, List.map_cons, List.map_nil]); first | done | rfl | (simp only [List.length_drop, List.length_take]; rfl)) ?_; (with_reducible refine (impl_MemoryNew.calls k t260 _ A2.out).mono ?_); rintro e w2 ⟨v261, rfl, ho0, hb⟩; refine ⟨_, rfl, ?_⟩; replace ST := Aside0.mk (ST.out.mem hb ho0); clear hb ho0; obtain ⟨Ao5, co5, eo5⟩ := Kd.S_slice ST.out.Me; subst eo5; replace zc1 := cel4 (ST.out.bk 0 rfl)) | ((with_reducible refine gate_dst (N := 4) rfl ?_); refine box_event ?hg (N := 4) ?hd (cs := #[.slice none 0 0, .slice none 0 0, .slice none 0 0, .slice none 0 0]) (t := 59) ?hr ?_; (case hd => rfl); (case hg => rfl); (case hr => first | (go_simp; done) | (go_simp; rfl)); intro gb3 hg w3 hbox hb; replace ST := Aside0.mk (ST.out.box hg hbox hb); clear hg hbox hb; have zo2 := cel4 (ST.out.bk 0 rfl); replace ST := Aside0.mk (ST.out.put4 0 rfl (.slice none 0 0) (.slice none 0 0) (.slice Ao5 t260.length co5) (.slice none 0 0)); replace zc1 := cel4 (ST.out.bk 1 rfl); replace zc3 := cel4 (ST.out.bk 0 rfl)))
  go_loopg [11] k (fun kq v11 w' => ∃ (x11_1 : Int) (cd : List (List S175)) (co : List S123) (uCd uCo : Value) (s0 : Nat), v11 = .int .i64 x11_1 ∧ Aside0 (impl_MachineNew.l0 kq l0 (l0.length : Int) x11_1 cd co t260 = some (r1, r2, r3, r4, r5)) ∧ Aside0 (kq ≤ k) ∧ Aside0 (NM w w2.heap.size s0 w' uCd uCo (.slice Ao5 t260.length co5) cd co t260 [(gb3, 59, #[uCd, uCo, .slice Ao5 t260.length co5, .slice none 0 0]), (gb1, 59, #[.slice none 0 0, .slice none 0 0, .slice none 0 0, .slice none 0 0])]))
  case atStart => exact ⟨0, [], [], .slice none 0 0, .slice none 0 0, _, (by first | rfl | (simp; done) | (simp [*]; done)), H', ⟨Nat.le_refl _⟩, ⟨by first | exact ST.out | exact ST.out.drew | exact ST.out.below (pw_below_drewN (Below.refl _ _) _)⟩⟩
  case round =>
    clear H'
    (try clear zc1 zc3)
    clear ST
    obtain ⟨x11_1, cd, co, uCd, uCo, s0, rfl, HA, HK1, ST⟩ := hrel
    cases gk with
    | zero => exact absurd HA.out (by simp [impl_MachineNew.l0])
    | succ k1 =>
      have h := HA.out
      clear HA
      simp only [impl_MachineNew.l0] at h
      by_cases c9 : x11_1 < (l0.length : Int)
      · rw [if_pos c9] at h
        have c9b0 : decide (x11_1 < (l0.length : Int)) = true := decide_eq_true c9
        by_cases c10 : 0 ≤ x11_1
        case neg => rw [if_neg c10] at h; cases h
        rw [if_pos c10] at h
        rw [if_pos c9] at h
        simp only [Option.bind_some] at h
        obtain ⟨y8, hy8⟩ : ∃ y_ : List Int, y_ = List.replicate 8 0 := ⟨_, rfl⟩
        obtain ⟨y24, hy24⟩ : ∃ y_ : List Int, y_ = List.replicate 24 0 := ⟨_, rfl⟩
        rw [← hy8, ← hy24] at h
        have HY8 := Aside0.mk hy8
        have HY24 := Aside0.mk hy24
        clear hy8 hy24
        by_cases c12 : ([] : List S175).length + (rd_L4 l0 x11_1).length < 3518437208883
        case neg => rw [if_neg c12] at h; cases h
        rw [if_pos c12] at h
        by_cases c13 : cd.length < 5864062014805
        case neg => rw [if_neg c13] at h; cases h
        rw [if_pos c13] at h
        rw [if_pos (by decide)] at h
        rw [if_pos (by decide)] at h
        by_cases c16 : co.length < 2199023255552
        case neg => rw [if_neg c16] at h; cases h
        rw [if_pos c16] at h
        obtain ⟨yrow, hyrow⟩ : ∃ y_ : List S175, y_ = [] ++ rd_L4 l0 x11_1 := ⟨_, rfl⟩
        rw [← hyrow] at h
        obtain ⟨ycd, hycd⟩ : ∃ y_ : List (List S175), y_ = cd ++ [yrow] := ⟨_, rfl⟩
        obtain ⟨yco, hyco⟩ : ∃ y_ : List S123, y_ = co ++ [(⟨0, y8, y24, 0⟩ : S123)] := ⟨_, rfl⟩
        rw [← hycd, ← hyco] at h
        have HYR := Aside0.mk hyrow
        have HYD := Aside0.mk hycd
        have HYO := Aside0.mk hyco
        clear hyrow hycd hyco
        have LM12 := Aside0.mk c12
        have LM13 := Aside0.mk c13
        have LM16 := Aside0.mk c16
        have H' := Aside0.mk h
        obtain ⟨ad, A_, c_, ea, hx, hl, hi⟩ := at_L4 HR0.out x11_1 c10 c9
        cases ea
        replace hx := (ST.out.A.cell (World.block_lt_of_cell? w _ hx)).trans hx
        have HRi := Aside0.mk hi
        have HCi := Aside0.mk hl
        clear hi hl h c12 c13 c16
        replace c10 := eq_true c10
        replace c9 := eq_true c9
        replace zc1 := cel4 (ST.out.bk 1 rfl)
        replace zc3 := cel4 (ST.out.bk 0 rfl)
        try go_wp2
        (try clear hx)
        replace ST := Aside0.mk ST.out.drew
        refine start_ (n := 9) (S := fun w' => C4 w' gb3 (uCd) (uCo) (.slice Ao5 t260.length co5) (.slice none 0 0)) (ds := [8]) #[false, false, false, false, false, false, false, false, false] (by kernel_rfl) rfl rfl (cw4 (ST.out.bk 0 rfl)) (fun hHeld => ?_)
        generalize wr.drew = w4 at ST hHeld ⊢
        refine pure_ (i := 0) (N := some 15) (v := ?_) (a' := ?_) #[true, false, false, false, false, false, false, false, false] rfl rfl (by kernel_rfl) (fun _ _ _ h => h) (Or.inl ⟨by rfl, ?_⟩) ?_ ?_
        rotate_left
        · intro w'
          go_simp
          with_reducible rfl
        rotate_left
        · simp only [Act.put, List.setIfInBounds_toArray, List.set_cons_zero, List.set_cons_succ, i64_w, i32_w]
          rfl
        refine pure_ (i := 3) (N := some 18) (v := ?_) (a' := ?_) #[true, false, false, true, false, false, false, false, false] rfl rfl (by kernel_rfl) (fun _ _ _ h => h) (Or.inl ⟨by rfl, ?_⟩) ?_ ?_
        rotate_left
        · intro w'
          go_simp
          with_reducible rfl
        rotate_left
        · simp only [Act.put, List.setIfInBounds_toArray, List.set_cons_zero, List.set_cons_succ, i64_w, i32_w]
          rfl
        refine take_ (i := 1) (N := some 16) (v := ?_) (a' := ?_) #[true, true, false, true, false, false, false, false, false] rfl rfl (by kernel_rfl) (fun _ _ _ h => h) (Or.inl ⟨by rfl, ?_⟩) hHeld ?_ ?_
        rotate_left
        · rintro w' s0
          go_simp
          with_reducible rfl
        rotate_left
        · simp only [Act.put, List.setIfInBounds_toArray, List.set_cons_zero, List.set_cons_succ, i64_w, i32_w]
          rfl
        refine one_ (i := 2) (N := some 17) #[true, true, true, true, false, false, false, false, false] rfl rfl (by kernel_rfl) (by decide) (fun K hK => ?_)
        refine Kd.R_lit_step k175 _ 175 ?hg (N := 17) ?hd (xs := ([] : List (S175))) (inner := []) (ok := fun _ => True) (okp := fun _ => True) ?hr ?hp (fun _ hk => hk) trivial (Below.refl _ _) (Nat.le_refl _) (by simp) ?_; (case hd => rfl); (case hg => rfl); (case hr => first | (go_simp; done) | (go_simp; rfl)); (case hp => exact (Reps.none _ _))
        intro v6 w5 ho6 hb hg_ hnew_
        clear hg_ hnew_
        have HI := Aside0.mk (Kd.R_lower (Kd.R_mono (ok' := fun k_ => s0 ≤ k_) (Kd.R_bound ho6) (fun k_ hk => Nat.le_trans ST.out.s hk.2.1)) (below_size ST.out.A))
        replace ST := Aside0.mk (ST.out.below hb)
        clear hb ho6
        refine hK.out _ _ (cw4 (ST.out.bk 0 rfl)) (fun hHeld => ?_)
        clear hK K
        refine norm_ (a' := ?_) ?_ ?_
        rotate_left
        · show Act.put _ (some 17) _ = _
          simp only [Act.put, List.setIfInBounds_toArray, List.set_cons_zero, List.set_cons_succ, i64_w, i32_w]
          rfl
        refine one_ (i := 4) (N := some 19) #[true, true, true, true, true, false, false, false, false] rfl rfl (by kernel_rfl) (by decide) (fun K hK => ?_)
        refine Kd.R_append_rows_step k175 (w0 := w) w.heap.size (by rfl) (.tmp 17) (.tmp 18) 125 175 (.agg #[(.int .i64 0), (.int .i64 0), (.int .i64 0), (.int .i64 0), (.int .i64 0)]) 40 rfl Try.underlying125 info175 rfl (by decide) (by omega) v6 ([] : List S175) (rd_L4 l0 x11_1) _ _ _ (fun k_ => s0 ≤ k_) (fun _ => False) rfl rfl ?aO ?aR (fun _ _ h => h) (fun _ h => h.elim) ?aF ?aB ?aS ?aL ?_
        (case aR => exact Kd.C_below HRi.out ST.out.A)
        (case aB => exact ST.out.A)
        (case aF => exact (fun k_ hk => Nat.le_trans ST.out.s hk))
        (case aO => exact HI.out)
        (case aS => exact below_size ST.out.A)
        (case aL => have := LM12.out; omega)
        intro v7 w6 ho hb hg hat
        rw [← HYR.out] at ho
        replace ST := Aside0.mk (ST.out.since (fun k_ hk => HI.out.1 k_ hk) hg hb)
        replace HI := Aside0.mk ho
        clear ho hb hg hat
        obtain ⟨Ai, ci, ei⟩ := Kd.R_slice HI.out
        subst ei
        refine hK.out _ _ (cw4 (ST.out.bk 0 rfl)) (fun hHeld => ?_)
        clear hK K
        refine norm_ (a' := ?_) ?_ ?_
        rotate_left
        · show Act.put _ (some 19) _ = _
          simp only [Act.put, List.setIfInBounds_toArray, List.set_cons_zero, List.set_cons_succ, i64_w, i32_w]
          rfl
        refine one_ (i := 5) (N := some 20) #[true, true, true, true, true, true, false, false, false] rfl rfl (by kernel_rfl) (by decide) (fun K hK => ?_)
        refine value_ (w1 := ?_) (v := ?_) (by rfl) rfl ?_ ?_
        rotate_left 2
        · go_simp
          constructor
          · rfl
          · rfl
        refine hK.out _ _ (cw4 (blk_alloc (ST.out.bk 0 rfl) _)) (fun hHeld => ?_)
        clear hK K
        refine norm_ (a' := ?_) ?_ ?_
        rotate_left
        · show Act.put _ (some 20) _ = _
          simp only [Act.put, List.setIfInBounds_toArray, List.set_cons_zero, List.set_cons_succ, i64_w, i32_w]
          rfl
        refine one_ (i := 6) (N := some 21) #[true, true, true, true, true, true, true, false, false] rfl rfl (by kernel_rfl) (by decide) (fun K hK => ?_)
        refine Kd.S_append_step (sslice 175 k175) (w0 := w) w.heap.size (by rfl) (.tmp 16) (.tmp 20) 53 125 (.slice none 0 0) 24 rfl Try.underlying53 info125 rfl (by decide) (by omega) uCd cd yrow [.slice Ai yrow.length ci] _ (fun k_ => s0 ≤ k_) rfl rfl ⟨_, rfl, (Loose.S (Loose.iso (Loose.pair Loose.int (Loose.pair Loose.int (Loose.pair Loose.int (Loose.pair Loose.int Loose.int)))) _) HI.out)⟩ ST.out.okp ST.out.fr (Kd.S_mono ST.out.Cd (fun k_ hk => ⟨hk.1, Nat.not_le.2 hk.2⟩)) ST.out.A (below_size ST.out.A) (by have := LM13.out; omega) ?_
        intro v8 w7 ho hb hg hat
        rw [← HYD.out] at ho
        replace ST := Aside0.mk (ST.out.codes ho hb hg (by simp [nt]))
        clear ho hb hg hat HI
        obtain ⟨Ac, cc, ec⟩ := Kd.S_slice ST.out.Cd
        subst ec
        refine hK.out _ _ (cw4 (ST.out.bk 0 rfl)) (fun hHeld => ?_)
        clear hK K
        refine norm_ (a' := ?_) ?_ ?_
        rotate_left
        · show Act.put _ (some 21) _ = _
          simp only [Act.put, List.setIfInBounds_toArray, List.set_cons_zero, List.set_cons_succ, i64_w, i32_w]
          rfl
        refine pure_ (i := 7) (N := some 22) (v := ?_) (a' := ?_) #[true, true, true, true, true, true, true, true, false] rfl rfl (by kernel_rfl) (fun _ _ _ h => h) (Or.inl ⟨by rfl, ?_⟩) ?_ ?_
        rotate_left
        · intro w'
          go_simp
          with_reducible rfl
        rotate_left
        · simp only [Act.put, List.setIfInBounds_toArray, List.set_cons_zero, List.set_cons_succ, i64_w, i32_w]
          rfl
        refine last_ (i := 8) (N := none) #[true, true, true, true, true, true, true, true, true] rfl rfl (by kernel_rfl) (by decide) (fun K hK => ?_)
        have zs := cel4 (ST.out.bk 0 rfl)
        refine skip_ (w1 := ?_) (by rfl) rfl ?_ ?_
        rotate_left
        · go_simp
          rfl
        refine hK.out _ _ ?_
        clear hK K
        refine done_ (by kernel_rfl) ?_
        clear zs
        replace ST := Aside0.mk (ST.out.put0 0 rfl (.slice Ac ycd.length cc))
        replace zc1 := cel4 (ST.out.bk 1 rfl)
        replace zc3 := cel4 (ST.out.bk 0 rfl)
        obtain ⟨s1, hs1⟩ : ∃ s_ : Nat, s_ = w7.heap.size := ⟨_, rfl⟩
        rw [← hs1] at ST
        clear hs1
        obtain ⟨Ad, cdc, ed⟩ := Kd.S_slice ST.out.Co
        subst ed
        replace zc1 := cel4 (ST.out.bk 1 rfl)
        replace zc3 := cel4 (ST.out.bk 0 rfl)
        try go_wp2
        replace ST := Aside0.mk ST.out.drew
        refine start_ (n := 9) (S := fun w' => C4 w' gb3 (.slice Ac ycd.length cc) (.slice Ad co.length cdc) (.slice Ao5 t260.length co5) (.slice none 0 0)) (ds := [8]) #[false, false, false, false, false, false, false, false, false] (by kernel_rfl) rfl rfl (cw4 (ST.out.bk 0 rfl)) (fun hHeld => ?_)
        generalize (w7.setCell ⟨gb3, 0, none⟩ (.slice Ac ycd.length cc)).drew = w8 at ST hHeld ⊢
        refine pure_ (i := 0) (N := some 23) (v := ?_) (a' := ?_) #[true, false, false, false, false, false, false, false, false] rfl rfl (by kernel_rfl) (fun _ _ _ h => h) (Or.inl ⟨by rfl, ?_⟩) ?_ ?_
        rotate_left
        · intro w'
          go_simp
          with_reducible rfl
        rotate_left
        · simp only [Act.put, List.setIfInBounds_toArray, List.set_cons_zero, List.set_cons_succ, i64_w, i32_w]
          rfl
        refine take_ (i := 1) (N := some 24) (v := ?_) (a' := ?_) #[true, true, false, false, false, false, false, false, false] rfl rfl (by kernel_rfl) (fun _ _ _ h => h) (Or.inl ⟨by rfl, ?_⟩) hHeld ?_ ?_
        rotate_left
        · rintro w' ⟨s0_, s1_, s2_, s3_⟩
          go_simp
          with_reducible rfl
        rotate_left
        · simp only [Act.put, List.setIfInBounds_toArray, List.set_cons_zero, List.set_cons_succ, i64_w, i32_w]
          rfl
        refine two_ (i := 2) (j := 3) (Ni := some 25) (Nj := some 26) #[true, true, true, false, false, false, false, false, false] #[true, true, false, true, false, false, false, false, false] rfl rfl rfl rfl (by kernel_rfl) (by decide) (by decide) (fun K hK => ?_) (fun K hK => ?_)
        · refine Kd.R_make_step (Kd.int .i64) (w0 := w) w.heap.size 3 (by rfl) (N := 25) rfl 31 _ _ rfl 8 rfl rfl Try.underlying31 (.int .i64 0) 8 info3 rfl (by decide) (by omega) 0 (ok := fun k_ => s1 ≤ k_) (okp := fun _ => False) rfl (fun _ hk => hk.elim) ST.out.s (by omega) (by omega) ST.out.A (below_size ST.out.A) ?_
          intro vrg w9 ho hb hg hnew_
          simp only [Int.reduceToNat] at ho
          rw [← HY8.out] at ho
          replace hb := (Below.refl w8.heap.size w8).grown hg (Nat.le_refl _) (by simp)
          replace ST := Aside0.mk (ST.out.below hb)
          have HA_ := Aside0.mk (Kd.R_mono (ok' := fun k_ => s1 ≤ k_ ∧ k_ < w9.heap.size) (Kd.R_bound ho) (fun k_ hk => ⟨hk.1, hk.2.2.1⟩))
          have HSX := Aside0.mk ST.out.s
          clear ho hb hg hnew_
          obtain ⟨Arg, crg, erg⟩ := Kd.R_slice HA_.out
          subst erg
          refine hK.out _ _ (cw4 (ST.out.bk 0 rfl)) (fun hHeld => ?_)
          clear hK K
          refine norm_ (a' := ?_) ?_ ?_
          rotate_left
          · show Act.put _ (some 25) _ = _
            simp only [Act.put, List.setIfInBounds_toArray, List.set_cons_zero, List.set_cons_succ, i64_w, i32_w]
            rfl
          refine one_ (i := 3) (N := some 26) #[true, true, true, true, false, false, false, false, false] rfl rfl (by kernel_rfl) (by decide) (fun K hK => ?_)
          refine Kd.R_make_step (Kd.int .i64) (w0 := w) w.heap.size 3 (by rfl) (N := 26) rfl 31 _ _ rfl 24 rfl rfl Try.underlying31 (.int .i64 0) 8 info3 rfl (by decide) (by omega) 0 (ok := fun k_ => w9.heap.size ≤ k_) (okp := fun _ => False) rfl (fun _ hk => hk.elim) (Nat.le_refl _) (by omega) (by omega) ST.out.A (below_size ST.out.A) ?_
          intro vvw w10 ho hb hg hnew_
          simp only [Int.reduceToNat] at ho
          rw [← HY24.out] at ho
          replace hb := (Below.refl w9.heap.size w9).grown hg (Nat.le_refl _) (by simp)
          replace ST := Aside0.mk (ST.out.below hb)
          replace HA_ := Aside0.mk (Kd.R_below HA_.out hb)
          have HB_ := Aside0.mk ho
          clear ho hb hg hnew_
          obtain ⟨Avw, cvw, evw⟩ := Kd.R_slice HB_.out
          subst evw
          refine hK.out _ _ (cw4 (ST.out.bk 0 rfl)) (fun hHeld => ?_)
          clear hK K
          refine norm_ (a' := ?_) ?_ ?_
          rotate_left
          · show Act.put _ (some 26) _ = _
            simp only [Act.put, List.setIfInBounds_toArray, List.set_cons_zero, List.set_cons_succ, i64_w, i32_w]
            rfl
          refine pure_ (i := 4) (N := some 27) (v := ?_) (a' := ?_) #[true, true, true, true, true, false, false, false, false] rfl rfl (by kernel_rfl) (fun _ _ _ h => h) (Or.inl ⟨by rfl, ?_⟩) ?_ ?_
          rotate_left
          · intro w'
            go_simp
            with_reducible rfl
          rotate_left
          · simp only [Act.put, List.setIfInBounds_toArray, List.set_cons_zero, List.set_cons_succ, i64_w, i32_w]
            rfl
          refine one_ (i := 5) (N := some 28) #[true, true, true, true, true, true, false, false, false] rfl rfl (by kernel_rfl) (by decide) (fun K hK => ?_)
          refine value_ (w1 := ?_) (v := ?_) (by rfl) rfl ?_ ?_
          rotate_left 2
          · go_simp
            constructor
            · rfl
            · rfl
          refine hK.out _ _ (cw4 (blk_alloc (ST.out.bk 0 rfl) _)) (fun hHeld => ?_)
          clear hK K
          refine norm_ (a' := ?_) ?_ ?_
          rotate_left
          · show Act.put _ (some 28) _ = _
            simp only [Act.put, List.setIfInBounds_toArray, List.set_cons_zero, List.set_cons_succ, i64_w, i32_w]
            rfl
          refine one_ (i := 6) (N := some 29) #[true, true, true, true, true, true, true, false, false] rfl rfl (by kernel_rfl) (by decide) (fun K hK => ?_)
          refine Kd.S_append_step kS123 (w0 := w) w.heap.size (by rfl) (.tmp 24) (.tmp 28) 54 123 (.agg #[(.int .i64 0), (.slice none 0 0), (.slice none 0 0), (.int .i64 0)]) 64 rfl Try.underlying54 info123 rfl (by decide) (by omega) (.slice Ad co.length cdc) co (⟨0, y8, y24, 0⟩ : S123) [.int .i64 0, .slice Arg y8.length crg, .slice Avw y24.length cvw, .int .i64 0] _ (fun k_ => s1 ≤ k_) rfl rfl (kS123_mkM _ _ _ _ _ (⟨0, y8, y24, 0⟩ : S123) HA_.out HB_.out (fun k_ hk => hk.1) (fun k_ hk => Nat.le_trans HSX.out hk) (fun k_ h1 h2 => absurd h2 (Nat.not_le.2 h1.2))) ST.out.okq ST.out.fq (Kd.S_mono ST.out.Co (fun k_ hk => ⟨hk.1, Nat.not_le.2 hk.2⟩)) ST.out.A (below_size ST.out.A) (by have := LM16.out; omega) ?_
          intro v9 w11 ho hb hg hat
          rw [← HYO.out] at ho
          replace ST := Aside0.mk (ST.out.cores ho hb hg (by simp [nt, sb]))
          clear ho hb hg hat HA_ HB_ HSX
          obtain ⟨Ae, ce_, ee⟩ := Kd.S_slice ST.out.Co
          subst ee
          refine hK.out _ _ (cw4 (ST.out.bk 0 rfl)) (fun hHeld => ?_)
          clear hK K
          refine norm_ (a' := ?_) ?_ ?_
          rotate_left
          · show Act.put _ (some 29) _ = _
            simp only [Act.put, List.setIfInBounds_toArray, List.set_cons_zero, List.set_cons_succ, i64_w, i32_w]
            rfl
          refine pure_ (i := 7) (N := some 30) (v := ?_) (a' := ?_) #[true, true, true, true, true, true, true, true, false] rfl rfl (by kernel_rfl) (fun _ _ _ h => h) (Or.inl ⟨by rfl, ?_⟩) ?_ ?_
          rotate_left
          · intro w'
            go_simp
            with_reducible rfl
          rotate_left
          · simp only [Act.put, List.setIfInBounds_toArray, List.set_cons_zero, List.set_cons_succ, i64_w, i32_w]
            rfl
          refine last_ (i := 8) (N := none) #[true, true, true, true, true, true, true, true, true] rfl rfl (by kernel_rfl) (by decide) (fun K hK => ?_)
          have zs := cel4 (ST.out.bk 0 rfl)
          refine skip_ (w1 := ?_) (by rfl) rfl ?_ ?_
          rotate_left
          · go_simp
            rfl
          refine hK.out _ _ ?_
          clear hK K
          refine done_ (by kernel_rfl) ?_
          clear zs
          replace ST := Aside0.mk (ST.out.put1 0 rfl (.slice Ae yco.length ce_))
          replace zc1 := cel4 (ST.out.bk 1 rfl)
          replace zc3 := cel4 (ST.out.bk 0 rfl)
          try go_wp2
          go_roundg k1
          case measure => have := HK1.out; omega
          case rel => exact ⟨wrap64 (x11_1 + 1), _, _, _, _, _, (by first | rfl | (simp; done) | (simp [*]; done)), H', ⟨by have := HK1.out; omega⟩, ⟨by first | exact ST.out | exact ST.out.drew | exact ST.out.below (pw_below_drewN (Below.refl _ _) _)⟩⟩
        · refine Kd.R_make_step (Kd.int .i64) (w0 := w) w.heap.size 3 (by rfl) (N := 26) rfl 31 _ _ rfl 24 rfl rfl Try.underlying31 (.int .i64 0) 8 info3 rfl (by decide) (by omega) 0 (ok := fun k_ => s1 ≤ k_) (okp := fun _ => False) rfl (fun _ hk => hk.elim) ST.out.s (by omega) (by omega) ST.out.A (below_size ST.out.A) ?_
          intro vvw w9 ho hb hg hnew_
          simp only [Int.reduceToNat] at ho
          rw [← HY24.out] at ho
          replace hb := (Below.refl w8.heap.size w8).grown hg (Nat.le_refl _) (by simp)
          replace ST := Aside0.mk (ST.out.below hb)
          have HA_ := Aside0.mk (Kd.R_mono (ok' := fun k_ => s1 ≤ k_ ∧ k_ < w9.heap.size) (Kd.R_bound ho) (fun k_ hk => ⟨hk.1, hk.2.2.1⟩))
          have HSX := Aside0.mk ST.out.s
          clear ho hb hg hnew_
          obtain ⟨Avw, cvw, evw⟩ := Kd.R_slice HA_.out
          subst evw
          refine hK.out _ _ (cw4 (ST.out.bk 0 rfl)) (fun hHeld => ?_)
          clear hK K
          refine norm_ (a' := ?_) ?_ ?_
          rotate_left
          · show Act.put _ (some 26) _ = _
            simp only [Act.put, List.setIfInBounds_toArray, List.set_cons_zero, List.set_cons_succ, i64_w, i32_w]
            rfl
          refine one_ (i := 2) (N := some 25) #[true, true, true, true, false, false, false, false, false] rfl rfl (by kernel_rfl) (by decide) (fun K hK => ?_)
          refine Kd.R_make_step (Kd.int .i64) (w0 := w) w.heap.size 3 (by rfl) (N := 25) rfl 31 _ _ rfl 8 rfl rfl Try.underlying31 (.int .i64 0) 8 info3 rfl (by decide) (by omega) 0 (ok := fun k_ => w9.heap.size ≤ k_) (okp := fun _ => False) rfl (fun _ hk => hk.elim) (Nat.le_refl _) (by omega) (by omega) ST.out.A (below_size ST.out.A) ?_
          intro vrg w10 ho hb hg hnew_
          simp only [Int.reduceToNat] at ho
          rw [← HY8.out] at ho
          replace hb := (Below.refl w9.heap.size w9).grown hg (Nat.le_refl _) (by simp)
          replace ST := Aside0.mk (ST.out.below hb)
          replace HA_ := Aside0.mk (Kd.R_below HA_.out hb)
          have HB_ := Aside0.mk ho
          clear ho hb hg hnew_
          obtain ⟨Arg, crg, erg⟩ := Kd.R_slice HB_.out
          subst erg
          refine hK.out _ _ (cw4 (ST.out.bk 0 rfl)) (fun hHeld => ?_)
          clear hK K
          refine norm_ (a' := ?_) ?_ ?_
          rotate_left
          · show Act.put _ (some 25) _ = _
            simp only [Act.put, List.setIfInBounds_toArray, List.set_cons_zero, List.set_cons_succ, i64_w, i32_w]
            rfl
          refine pure_ (i := 4) (N := some 27) (v := ?_) (a' := ?_) #[true, true, true, true, true, false, false, false, false] rfl rfl (by kernel_rfl) (fun _ _ _ h => h) (Or.inl ⟨by rfl, ?_⟩) ?_ ?_
          rotate_left
          · intro w'
            go_simp
            with_reducible rfl
          rotate_left
          · simp only [Act.put, List.setIfInBounds_toArray, List.set_cons_zero, List.set_cons_succ, i64_w, i32_w]
            rfl
          refine one_ (i := 5) (N := some 28) #[true, true, true, true, true, true, false, false, false] rfl rfl (by kernel_rfl) (by decide) (fun K hK => ?_)
          refine value_ (w1 := ?_) (v := ?_) (by rfl) rfl ?_ ?_
          rotate_left 2
          · go_simp
            constructor
            · rfl
            · rfl
          refine hK.out _ _ (cw4 (blk_alloc (ST.out.bk 0 rfl) _)) (fun hHeld => ?_)
          clear hK K
          refine norm_ (a' := ?_) ?_ ?_
          rotate_left
          · show Act.put _ (some 28) _ = _
            simp only [Act.put, List.setIfInBounds_toArray, List.set_cons_zero, List.set_cons_succ, i64_w, i32_w]
            rfl
          refine one_ (i := 6) (N := some 29) #[true, true, true, true, true, true, true, false, false] rfl rfl (by kernel_rfl) (by decide) (fun K hK => ?_)
          refine Kd.S_append_step kS123 (w0 := w) w.heap.size (by rfl) (.tmp 24) (.tmp 28) 54 123 (.agg #[(.int .i64 0), (.slice none 0 0), (.slice none 0 0), (.int .i64 0)]) 64 rfl Try.underlying54 info123 rfl (by decide) (by omega) (.slice Ad co.length cdc) co (⟨0, y8, y24, 0⟩ : S123) [.int .i64 0, .slice Arg y8.length crg, .slice Avw y24.length cvw, .int .i64 0] _ (fun k_ => s1 ≤ k_) rfl rfl (kS123_mkM _ _ _ _ _ (⟨0, y8, y24, 0⟩ : S123) HB_.out HA_.out (fun k_ hk => Nat.le_trans HSX.out hk) (fun k_ hk => hk.1) (fun k_ h1 h2 => absurd h1 (Nat.not_le.2 h2.2))) ST.out.okq ST.out.fq (Kd.S_mono ST.out.Co (fun k_ hk => ⟨hk.1, Nat.not_le.2 hk.2⟩)) ST.out.A (below_size ST.out.A) (by have := LM16.out; omega) ?_
          intro v9 w11 ho hb hg hat
          rw [← HYO.out] at ho
          replace ST := Aside0.mk (ST.out.cores ho hb hg (by simp [nt, sb]))
          clear ho hb hg hat HA_ HB_ HSX
          obtain ⟨Ae, ce_, ee⟩ := Kd.S_slice ST.out.Co
          subst ee
          refine hK.out _ _ (cw4 (ST.out.bk 0 rfl)) (fun hHeld => ?_)
          clear hK K
          refine norm_ (a' := ?_) ?_ ?_
          rotate_left
          · show Act.put _ (some 29) _ = _
            simp only [Act.put, List.setIfInBounds_toArray, List.set_cons_zero, List.set_cons_succ, i64_w, i32_w]
            rfl
          refine pure_ (i := 7) (N := some 30) (v := ?_) (a' := ?_) #[true, true, true, true, true, true, true, true, false] rfl rfl (by kernel_rfl) (fun _ _ _ h => h) (Or.inl ⟨by rfl, ?_⟩) ?_ ?_
          rotate_left
          · intro w'
            go_simp
            with_reducible rfl
          rotate_left
          · simp only [Act.put, List.setIfInBounds_toArray, List.set_cons_zero, List.set_cons_succ, i64_w, i32_w]
            rfl
          refine last_ (i := 8) (N := none) #[true, true, true, true, true, true, true, true, true] rfl rfl (by kernel_rfl) (by decide) (fun K hK => ?_)
          have zs := cel4 (ST.out.bk 0 rfl)
          refine skip_ (w1 := ?_) (by rfl) rfl ?_ ?_
          rotate_left
          · go_simp
            rfl
          refine hK.out _ _ ?_
          clear hK K
          refine done_ (by kernel_rfl) ?_
          clear zs
          replace ST := Aside0.mk (ST.out.put1 0 rfl (.slice Ae yco.length ce_))
          replace zc1 := cel4 (ST.out.bk 1 rfl)
          replace zc3 := cel4 (ST.out.bk 0 rfl)
          try go_wp2
          go_roundg k1
          case measure => have := HK1.out; omega
          case rel => exact ⟨wrap64 (x11_1 + 1), _, _, _, _, _, (by first | rfl | (simp; done) | (simp [*]; done)), H', ⟨by have := HK1.out; omega⟩, ⟨by first | exact ST.out | exact ST.out.drew | exact ST.out.below (pw_below_drewN (Below.refl _ _) _)⟩⟩
      rw [if_neg c9] at h
      have c9b0 : decide (x11_1 < (l0.length : Int)) = false := decide_eq_false c9
      clear c9
      replace h := Option.bind_eq_some_iff.mp h
      obtain ⟨t, hok, h⟩ := h
      try dsimp only at h
      have HOK := Aside0.mk hok
      clear hok
      have HH := Aside0.mk h
      clear h
      obtain ⟨Ac, cc, ec⟩ := Kd.S_slice ST.out.Cd
      subst ec
      obtain ⟨Ad, cdc, ed⟩ := Kd.S_slice ST.out.Co
      subst ed
      replace zc1 := cel4 (ST.out.bk 1 rfl)
      replace zc3 := cel4 (ST.out.bk 0 rfl)
      go_wp2_with (first | ((with_reducible refine gate_callee (f := 81) rfl ?_); refine goesL_ (some 33) rfl rfl Try.func81 (by kernel_rfl) rfl #[.agg #[.slice Ac cd.length cc, .slice Ad co.length cdc, .slice Ao5 t260.length co5, .slice none 0 0]] rfl (by (try simp only [List.map_toArray, List.map_cons, List.map_nil]); first | done | rfl | (simp only [List.length_drop, List.length_take]; rfl)) ?_; (refine (impl_MachineOk.calls k1 _ _ cd _ _ co _ _ t260 _ _ ([] : List S35) t _ ?s3_1 ?s3_2 ?s3_3 ?s3_4 ?s3_5 ?s3_6 ?s3_7 ?s3_8 HOK.out).mono ?_); (case s3_1 => exact (Kd.R_reads' (S_Rs ST.out.Cd)).2.2); (case s3_2 => exact (Kd.R_reads' (S_Rs ST.out.Cd)).2.1); (case s3_3 => exact (Kd.S_reads' (S_core ST.out.Co)).2.2); (case s3_4 => exact (Kd.S_reads' (S_core ST.out.Co)).2.1); (case s3_5 => exact (Kd.R_reads' (S_Rs ST.out.Me)).2.2); (case s3_6 => exact (Kd.R_reads' (S_Rs ST.out.Me)).2.1); (case s3_7 => exact Kd.C_nil _ _); (case s3_8 => exact Nat.le_refl _); rintro e w4 ⟨rfl, hb⟩; refine ⟨_, rfl, ?_⟩; replace ST := Aside0.mk (ST.out.below hb); (try clear hb); replace zc1 := cel4 (ST.out.bk 1 rfl); replace zc3 := cel4 (ST.out.bk 0 rfl); refine hide_ (fun G hG => ?_)))
      have h := HH.out
      clear HH
      cases t
      · rw [if_neg (by decide)] at h
        simp only [Option.some.injEq, Prod.mk.injEq] at h
        obtain ⟨rfl, rfl, rfl, rfl, rfl⟩ := h
        refine hG.out ?_
        clear hG G
        go_wp2
        replace ST := Aside0.mk (ST.out.put4 1 rfl (.slice none 0 0) (.slice none 0 0) (.slice none 0 0) (.slice none 0 0))
        refine bodyPost_ret (results_ct rfl _ _ gb1 59 #[.slice none 0 0, .slice none 0 0, .slice none 0 0, .slice none 0 0] (0, 0) _ rfl (ST.out.bk 1 rfl) Try.underlying59 rfl (by kernel_rfl)) rfl ?_
        exact ⟨_, _, _, _, 0, by first | rfl | (simp <;> rfl), Kd.S_nil _ _ _ _ _, Kd.S_nil _ _ _ _ _, Kd.S_nil _ _ _ _ _, Kd.R_nil _ _ _ _ _, ST.out.A⟩
      · rw [if_pos rfl] at h
        simp only [Option.some.injEq, Prod.mk.injEq] at h
        obtain ⟨rfl, rfl, rfl, rfl, rfl⟩ := h
        refine hG.out ?_
        clear hG G
        go_wp2
        replace ST := Aside0.mk (ST.out.put4 1 rfl (.slice Ac cd.length cc) (.slice Ad co.length cdc) (.slice Ao5 t260.length co5) (.slice none 0 0))
        refine bodyPost_ret (results_ct rfl _ _ gb1 59 #[.slice Ac cd.length cc, .slice Ad co.length cdc, .slice Ao5 t260.length co5, .slice none 0 0] (0, 0) _ rfl (ST.out.bk 1 rfl) Try.underlying59 rfl (by kernel_rfl)) rfl ?_
        exact ⟨_, _, _, _, _, by first | rfl | (simp <;> rfl), Kd.S_mono ST.out.Cd (fun _ _ => trivial), Kd.S_mono ST.out.Co (fun _ hk => hk.1.2), Kd.S_mono ST.out.Me (fun _ hk => hk.2), Kd.R_nil _ _ _ _ _, ST.out.A⟩
end Go.Proofs.Ytobachfngmpeiaa.PFnExactMachineNew
namespace Go.Proofs.Ytobachfngmpeiaa.PFnExactMachineNew
open Go.RowKit Go.Proofs.YtobachfngmpeiaaW.PrintWords Go.Proofs.YtobachfngmpeiaaW.PrintLast Go.Proofs.YtobachfngmpeiaaW.PrintMore
attribute [local go_sem] max2_int min2_int max_two min_two max_three min_three max_four min_four   -- for this text's walks alone
set_option linter.unusedVariables false
set_option linter.unusedSimpArgs false
def laws_eqStep.f (a0_0 : Int) (a0_1 : Int) (a0_2 : Int) (a0_3 : Int) (a0_4 : Int) (a1_0 : Int) (a1_1 : Int) (a1_2 : Int) (a1_3 : Int) (a1_4 : Int) : Option (Bool) := if a0_0 = a1_0 then (if a0_1 = a1_1 then (if a0_2 = a1_2 then (if a0_3 = a1_3 then (if a0_4 = a1_4 then (some true) else (some false)) else (some false)) else (some false)) else (some false)) else (some false)
set_option maxHeartbeats 8000000 in
set_option maxRecDepth 100000 in
theorem laws_eqStep.calls (a0_0 : Int) (a0_1 : Int) (a0_2 : Int) (a0_3 : Int) (a0_4 : Int) (a1_0 : Int) (a1_1 : Int) (a1_2 : Int) (a1_3 : Int) (a1_4 : Int) (r : Bool) (w : World) (h : laws_eqStep.f a0_0 a0_1 a0_2 a0_3 a0_4 a1_0 a1_1 a1_2 a1_3 a1_4 = some r) :
  Calls Try.prog 140 #[.agg #[.int .i64 a0_0, .int .i64 a0_1, .int .i64 a0_2, .int .i64 a0_3, .int .i64 a0_4], .agg #[.int .i64 a1_0, .int .i64 a1_1, .int .i64 a1_2, .int .i64 a1_3, .int .i64 a1_4]] w fun e w' => e = .returned (.bool r) ∧ Below w.heap.size w w' := by
 have hu175 := Try.underlying175
 have HB := aM_ (Below.refl w.heap.size w)
 have H : (if a0_0 = a1_0 then (if a0_1 = a1_1 then (if a0_2 = a1_2 then (if a0_3 = a1_3 then (if a0_4 = a1_4 then (some true) else (some false)) else (some false)) else (some false)) else (some false)) else (some false)) = some r := h
 clear h
 by_cases c3 : a0_0 = a1_0
 ·rw [if_pos c3] at H
  have c3b0 : (a0_0 == a1_0) = true := beq_iff_eq.mpr c3
  have c3b1 : (a0_0 != a1_0) = false := bne_eq_false_iff_eq.mpr c3
  clear c3
  by_cases c4 : a0_1 = a1_1
  ·rw [if_pos c4] at H
   have c4b0 : (a0_1 == a1_1) = true := beq_iff_eq.mpr c4
   have c4b1 : (a0_1 != a1_1) = false := bne_eq_false_iff_eq.mpr c4
   clear c4
   by_cases c5 : a0_2 = a1_2
   ·rw [if_pos c5] at H
    have c5b0 : (a0_2 == a1_2) = true := beq_iff_eq.mpr c5
    have c5b1 : (a0_2 != a1_2) = false := bne_eq_false_iff_eq.mpr c5
    clear c5
    by_cases c6 : a0_3 = a1_3
    ·rw [if_pos c6] at H
     have c6b0 : (a0_3 == a1_3) = true := beq_iff_eq.mpr c6
     have c6b1 : (a0_3 != a1_3) = false := bne_eq_false_iff_eq.mpr c6
     clear c6
     by_cases c7 : a0_4 = a1_4
     ·rw [if_pos c7] at H
      have c7b0 : (a0_4 == a1_4) = true := beq_iff_eq.mpr c7
      have c7b1 : (a0_4 != a1_4) = false := bne_eq_false_iff_eq.mpr c7
      clear c7
      obtain rfl := Option.some.inj H
      go_enter Try.func140, Try.ntmps140
      go_wp2_with (first | ((with_reducible refine gate_dst (N := 2) rfl ?_); refine bX_ 2 (cs := #[.int .i64 a0_0, .int .i64 a0_1, .int .i64 a0_2, .int .i64 a0_3, .int .i64 a0_4]) (t := 175) ?_; intro gb284 hg w8 hbox hb; have BK284 := aM_ (hbox); have GE284 := aM_ (sZ_ hg HB.out); replace HB := aM_ (sT_ HB.out hb); clear hb hbox hg) | ((with_reducible refine gate_dst (N := 3) rfl ?_); refine bX_ 3 (cs := #[.int .i64 a1_0, .int .i64 a1_1, .int .i64 a1_2, .int .i64 a1_3, .int .i64 a1_4]) (t := 175) ?_; intro gb285 hg w9 hbox hb; have BK285 := aM_ (hbox); have GE285 := aM_ (sZ_ hg HB.out); have NB284_285 := aM_ (nL_ hg BK284.out); have NB285_284 := aM_ (nG_ hg BK284.out); replace BK284 := aM_ (nB_ BK284.out hb); replace HB := aM_ (sT_ HB.out hb); clear hb hbox hg; have hnb10 := NB284_285.out; have hnc10 := NB285_284.out; have z_11 := bR5_ BK284.out; have z_12 := bR5_ BK285.out))
      go_ret
      exact fI_ HB.out
     ·rw [if_neg c7] at H
      have c7b0 : (a0_4 == a1_4) = false := beq_eq_false_iff_ne.mpr c7
      have c7b1 : (a0_4 != a1_4) = true := bne_iff_ne.mpr c7
      obtain rfl := Option.some.inj H
      go_enter Try.func140, Try.ntmps140
      go_wp2_with (first | ((with_reducible refine gate_dst (N := 2) rfl ?_); refine bX_ 2 (cs := #[.int .i64 a0_0, .int .i64 a0_1, .int .i64 a0_2, .int .i64 a0_3, .int .i64 a0_4]) (t := 175) ?_; intro gb284 hg w13 hbox hb; have BK284 := aM_ (hbox); have GE284 := aM_ (sZ_ hg HB.out); replace HB := aM_ (sT_ HB.out hb); clear hb hbox hg) | ((with_reducible refine gate_dst (N := 3) rfl ?_); refine bX_ 3 (cs := #[.int .i64 a1_0, .int .i64 a1_1, .int .i64 a1_2, .int .i64 a1_3, .int .i64 a1_4]) (t := 175) ?_; intro gb285 hg w14 hbox hb; have BK285 := aM_ (hbox); have GE285 := aM_ (sZ_ hg HB.out); have NB284_285 := aM_ (nL_ hg BK284.out); have NB285_284 := aM_ (nG_ hg BK284.out); replace BK284 := aM_ (nB_ BK284.out hb); replace HB := aM_ (sT_ HB.out hb); clear hb hbox hg; have hnb15 := NB284_285.out; have hnc15 := NB285_284.out; have z_16 := bR5_ BK284.out; have z_17 := bR5_ BK285.out))
      go_ret
      exact fI_ HB.out
    ·rw [if_neg c6] at H
     have c6b0 : (a0_3 == a1_3) = false := beq_eq_false_iff_ne.mpr c6
     have c6b1 : (a0_3 != a1_3) = true := bne_iff_ne.mpr c6
     obtain rfl := Option.some.inj H
     go_enter Try.func140, Try.ntmps140
     go_wp2_with (first | ((with_reducible refine gate_dst (N := 2) rfl ?_); refine bX_ 2 (cs := #[.int .i64 a0_0, .int .i64 a0_1, .int .i64 a0_2, .int .i64 a0_3, .int .i64 a0_4]) (t := 175) ?_; intro gb284 hg w18 hbox hb; have BK284 := aM_ (hbox); have GE284 := aM_ (sZ_ hg HB.out); replace HB := aM_ (sT_ HB.out hb); clear hb hbox hg) | ((with_reducible refine gate_dst (N := 3) rfl ?_); refine bX_ 3 (cs := #[.int .i64 a1_0, .int .i64 a1_1, .int .i64 a1_2, .int .i64 a1_3, .int .i64 a1_4]) (t := 175) ?_; intro gb285 hg w19 hbox hb; have BK285 := aM_ (hbox); have GE285 := aM_ (sZ_ hg HB.out); have NB284_285 := aM_ (nL_ hg BK284.out); have NB285_284 := aM_ (nG_ hg BK284.out); replace BK284 := aM_ (nB_ BK284.out hb); replace HB := aM_ (sT_ HB.out hb); clear hb hbox hg; have hnb20 := NB284_285.out; have hnc20 := NB285_284.out; have z_21 := bR5_ BK284.out; have z_22 := bR5_ BK285.out))
     go_ret
     exact fI_ HB.out
   ·rw [if_neg c5] at H
    have c5b0 : (a0_2 == a1_2) = false := beq_eq_false_iff_ne.mpr c5
    have c5b1 : (a0_2 != a1_2) = true := bne_iff_ne.mpr c5
    obtain rfl := Option.some.inj H
    go_enter Try.func140, Try.ntmps140
    go_wp2_with (first | ((with_reducible refine gate_dst (N := 2) rfl ?_); refine bX_ 2 (cs := #[.int .i64 a0_0, .int .i64 a0_1, .int .i64 a0_2, .int .i64 a0_3, .int .i64 a0_4]) (t := 175) ?_; intro gb284 hg w23 hbox hb; have BK284 := aM_ (hbox); have GE284 := aM_ (sZ_ hg HB.out); replace HB := aM_ (sT_ HB.out hb); clear hb hbox hg) | ((with_reducible refine gate_dst (N := 3) rfl ?_); refine bX_ 3 (cs := #[.int .i64 a1_0, .int .i64 a1_1, .int .i64 a1_2, .int .i64 a1_3, .int .i64 a1_4]) (t := 175) ?_; intro gb285 hg w24 hbox hb; have BK285 := aM_ (hbox); have GE285 := aM_ (sZ_ hg HB.out); have NB284_285 := aM_ (nL_ hg BK284.out); have NB285_284 := aM_ (nG_ hg BK284.out); replace BK284 := aM_ (nB_ BK284.out hb); replace HB := aM_ (sT_ HB.out hb); clear hb hbox hg; have hnb25 := NB284_285.out; have hnc25 := NB285_284.out; have z_26 := bR5_ BK284.out; have z_27 := bR5_ BK285.out))
    go_ret
    exact fI_ HB.out
  ·rw [if_neg c4] at H
   have c4b0 : (a0_1 == a1_1) = false := beq_eq_false_iff_ne.mpr c4
   have c4b1 : (a0_1 != a1_1) = true := bne_iff_ne.mpr c4
   obtain rfl := Option.some.inj H
   go_enter Try.func140, Try.ntmps140
   go_wp2_with (first | ((with_reducible refine gate_dst (N := 2) rfl ?_); refine bX_ 2 (cs := #[.int .i64 a0_0, .int .i64 a0_1, .int .i64 a0_2, .int .i64 a0_3, .int .i64 a0_4]) (t := 175) ?_; intro gb284 hg w28 hbox hb; have BK284 := aM_ (hbox); have GE284 := aM_ (sZ_ hg HB.out); replace HB := aM_ (sT_ HB.out hb); clear hb hbox hg) | ((with_reducible refine gate_dst (N := 3) rfl ?_); refine bX_ 3 (cs := #[.int .i64 a1_0, .int .i64 a1_1, .int .i64 a1_2, .int .i64 a1_3, .int .i64 a1_4]) (t := 175) ?_; intro gb285 hg w29 hbox hb; have BK285 := aM_ (hbox); have GE285 := aM_ (sZ_ hg HB.out); have NB284_285 := aM_ (nL_ hg BK284.out); have NB285_284 := aM_ (nG_ hg BK284.out); replace BK284 := aM_ (nB_ BK284.out hb); replace HB := aM_ (sT_ HB.out hb); clear hb hbox hg; have hnb30 := NB284_285.out; have hnc30 := NB285_284.out; have z_31 := bR5_ BK284.out; have z_32 := bR5_ BK285.out))
   go_ret
   exact fI_ HB.out
 ·rw [if_neg c3] at H
  have c3b0 : (a0_0 == a1_0) = false := beq_eq_false_iff_ne.mpr c3
  have c3b1 : (a0_0 != a1_0) = true := bne_iff_ne.mpr c3
  obtain rfl := Option.some.inj H
  go_enter Try.func140, Try.ntmps140
  go_wp2_with (first | ((with_reducible refine gate_dst (N := 2) rfl ?_); refine bX_ 2 (cs := #[.int .i64 a0_0, .int .i64 a0_1, .int .i64 a0_2, .int .i64 a0_3, .int .i64 a0_4]) (t := 175) ?_; intro gb284 hg w33 hbox hb; have BK284 := aM_ (hbox); have GE284 := aM_ (sZ_ hg HB.out); replace HB := aM_ (sT_ HB.out hb); clear hb hbox hg) | ((with_reducible refine gate_dst (N := 3) rfl ?_); refine bX_ 3 (cs := #[.int .i64 a1_0, .int .i64 a1_1, .int .i64 a1_2, .int .i64 a1_3, .int .i64 a1_4]) (t := 175) ?_; intro gb285 hg w34 hbox hb; have BK285 := aM_ (hbox); have GE285 := aM_ (sZ_ hg HB.out); have NB284_285 := aM_ (nL_ hg BK284.out); have NB285_284 := aM_ (nG_ hg BK284.out); replace BK284 := aM_ (nB_ BK284.out hb); replace HB := aM_ (sT_ HB.out hb); clear hb hbox hg; have hnb35 := NB284_285.out; have hnc35 := NB285_284.out; have z_36 := bR5_ BK284.out; have z_37 := bR5_ BK285.out))
  go_ret
  exact fI_ HB.out
end Go.Proofs.Ytobachfngmpeiaa.PFnExactMachineNew
