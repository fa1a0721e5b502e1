/- A part of the proof that the law FnExactStore holds for every input: the words, functions and walks that its row needs, without a condition of their own. -/
import Derived.Test.YthbcnakmnbilhaaZFnExactStorea2
import Derived.Test.YthbcnakmnbilhaaZFnExactStorea4
import Derived.Test.YthbcnakmnbilhaaZFnExactStorea5
import Derived.Test.YthbcnakmnbilhaaZFnExactStorea6
import Derived.Test.YthbcnakmnbilhaaZFnExactStores
namespace Go.Proofs.Ythbcnakmnbilhaa.PFnExactStore
open Go.RowKit Go.Proofs.YthbcnakmnbilhaaW.PrintWords Go.Proofs.YthbcnakmnbilhaaW.PrintLast Go.Proofs.YthbcnakmnbilhaaW.PrintMore Go.Proofs.Ythbcnakmnbilhaa.SepMark
attribute [local go_sem] max2_int min2_int max_two min_two max_three min_three max_four min_four   -- for this text's walks alone
set_option linter.unusedVariables false
set_option linter.unusedSimpArgs false
def impl_Store.j0 : Nat → List Int → Int → Int → Bool → Bool → List (List (S43)) → Option ((List (List (S43))) × List Int)
  | 0, _, _, _, _, _, _ => none
  | k + 1, x1, x2, x3, x4, x34, x183000 => if x34 = true then ((impl_copyInts.f x1).bind fun t187 => (some (x183000, t187))) else ((impl_Memory_store.f x183000 x1 x2 x3 x4).bind fun bt190 => (some (bt190.1, bt190.2)))
def impl_Store.f (k : Nat) (l0_0 : List (List (S43))) (l1 : List Int) (a2 : Int) (a3 : Int) (a4 : Bool) : Option ((List (List (S43))) × List Int) := (impl_copyMemory.f k l0_0).bind fun t179 => ((impl_MemoryOk.f k l0_0).bind fun t183 => (if t183 = true then ((impl_ViewOk.f k l0_0 l1).bind fun t184 => (if t184 = true then ((impl_isCell.f a2).bind fun t185 => (if t185 = true then ((impl_Memory_hasRoom.f l0_0 a2).bind fun t186 => (impl_Store.j0 k l1 a2 a3 a4 (!t186) t179)) else (impl_Store.j0 k l1 a2 a3 a4 true t179))) else (impl_Store.j0 k l1 a2 a3 a4 true t179))) else (impl_Store.j0 k l1 a2 a3 a4 true t179)))
set_option maxHeartbeats 8000000 in
set_option maxRecDepth 100000 in
theorem impl_Store.calls (k : Nat) (A0_0 : Option Addr) (c0_0 : Nat) (l0_0 : List (List (S43))) (A1 : Option Addr) (c1 : Nat) (l1 : List Int) (a2 : Int) (a3 : Int) (a4 : Bool) (r1 : List (List (S43))) (r2 : List Int) (w : World) (hr0_0 : Kd.C (Kd.slice 43 k43) w A0_0 l0_0.length l0_0) (hc0_0 : l0_0.length ≤ c0_0) (hr1 : Kd.C (Kd.int .i64) w A1 l1.length l1) (hc1 : l1.length ≤ c1) (h : impl_Store.f k l0_0 l1 a2 a3 a4 = some (r1, r2)) :
  Calls Try.prog 20 #[.agg #[.slice A0_0 l0_0.length c0_0], .slice A1 l1.length c1, .int .i64 a2, .int .i64 a3, .bool a4] w fun e w' => ∃ v0_ v1_ : Value, e = .returned (.tuple #[.agg #[v0_], v1_]) ∧ Kd.S (sslice 43 k43) 44 w' w.heap.size (fun k_ => some k_ ≠ (v1_ : Value).ownBlock) v0_ r1 ∧ Kd.R (Kd.int .i64) 3 w' w.heap.size (fun _ => True) v1_ r2 ∧ Below w.heap.size w w' := by
 have hu24 := Try.underlying24
 have HR0_0 := aM_ hr0_0
 have HC0_0 := aM_ hc0_0
 clear hr0_0 hc0_0
 have HR1 := aM_ hr1
 have HC1 := aM_ hc1
 clear hr1 hc1
 have HB := aM_ (Below.refl w.heap.size w)
 have H : ((impl_copyMemory.f k l0_0).bind fun t179 => ((impl_MemoryOk.f k l0_0).bind fun t183 => (if t183 = true then ((impl_ViewOk.f k l0_0 l1).bind fun t184 => (if t184 = true then ((impl_isCell.f a2).bind fun t185 => (if t185 = true then ((impl_Memory_hasRoom.f l0_0 a2).bind fun t186 => (impl_Store.j0 k l1 a2 a3 a4 (!t186) t179)) else (impl_Store.j0 k l1 a2 a3 a4 true t179))) else (impl_Store.j0 k l1 a2 a3 a4 true t179))) else (impl_Store.j0 k l1 a2 a3 a4 true t179)))) = some (r1, r2) := h
 clear h
 replace H := Option.bind_eq_some_iff.mp H
 obtain ⟨t179, A60, H⟩ := H
 replace H : ((impl_MemoryOk.f k l0_0).bind fun t183 => (if t183 = true then ((impl_ViewOk.f k l0_0 l1).bind fun t184 => (if t184 = true then ((impl_isCell.f a2).bind fun t185 => (if t185 = true then ((impl_Memory_hasRoom.f l0_0 a2).bind fun t186 => (impl_Store.j0 k l1 a2 a3 a4 (!t186) t179)) else (impl_Store.j0 k l1 a2 a3 a4 true t179))) else (impl_Store.j0 k l1 a2 a3 a4 true t179))) else (impl_Store.j0 k l1 a2 a3 a4 true t179))) = some (r1, r2) := H
 have A6 := aM_ A60
 clear A60
 have HC7 := aM_ H
 clear H
 go_enter Try.func20, Try.ntmps20
 go_upto_region 2 with (first | ((with_reducible refine gate_dst (N := 5) rfl ?_); refine bX_ 5 (cs := #[.slice A0_0 l0_0.length c0_0]) (t := 24) ?_; intro gb177 hg w8 hbox hb; have n0 := aM_ (sT_ HB.out hb); have n1 := aM_ (hbox); have n2 := aM_ (sZ_ hg HB.out); have n3 := aM_ (sZ_ hg HB.out); clear HB; have HB := n0; have BK177 := n1; have GW177 := n2; have GE177 := n3; clear n0 n1 n2 n3; clear hb hbox hg) | ((with_reducible refine gate_dst (N := 10) rfl ?_); refine bX_ 10 (cs := #[.slice none 0 0]) (t := 24) ?_; intro gb178 hg w9 hbox hb; have n0 := aM_ (nB_ BK177.out hb); have n1 := aM_ (sT_ HB.out hb); have n2 := aM_ (hbox); have n3 := aM_ (sZ_ hg HB.out); have n4 := aM_ (sZ_ hg HB.out); have n5 := aM_ (nL_ hg BK177.out); have n6 := aM_ (nG_ hg BK177.out); clear BK177; clear HB; have BK177 := n0; have HB := n1; have BK178 := n2; have GW178 := n3; have GE178 := n4; have NB177_178 := n5; have NB178_177 := n6; clear n0 n1 n2 n3 n4 n5 n6; clear hb hbox hg; have hnb10 := NB177_178.out; have hnc10 := NB178_177.out; have hcz11_0 : w9.cell? ⟨gb177, 0, none⟩ = some (.slice A0_0 l0_0.length c0_0) := (blk_cell BK177.out 0).trans rfl; have hfz11_0 := blk_frozen BK177.out 0) | ((with_reducible refine gate_callee (f := 55) rfl ?_); refine gL_ (some 15) Try.func55 #[.agg #[.slice A0_0 l0_0.length c0_0]] ?_; (with_reducible refine (impl_copyMemory.calls k _ _ l0_0 t179 _ ?side1 ?side2 A6.out).mono ?_); (case side1 => exact cS_ (Kd.C_below HR0_0.out HB.out)); (case side2 => exact HC0_0.out); rintro e w12 ⟨v180, rfl, ho0, hb⟩; refine ⟨_, rfl, ?_⟩; have n0 := aM_ (Kd.S_lower ho0 (below_size (gB_ HB.out))); have n1 := aM_ (nB_ BK177.out hb); have n2 := aM_ (nB_ BK178.out hb); have n3 := aM_ (sT_ HB.out hb); clear BK177; clear BK178; clear HB; have HO181 := n0; have BK177 := n1; have BK178 := n2; have HB := n3; clear n0 n1 n2 n3; (try clear ho0)) | ((with_reducible refine gate_dst (N := 12) rfl ?_); refine bX_ 12 (cs := #[.slice none 0 0]) (t := 24) ?_; intro gb182 hg w13 hbox hb; have n0 := aM_ (bS_ HO181.out hb); have n1 := aM_ (nB_ BK177.out hb); have n2 := aM_ (nB_ BK178.out hb); have n3 := aM_ (sT_ HB.out hb); have n4 := aM_ (hbox); have n5 := aM_ (sZ_ hg HB.out); have n6 := aM_ (sZ_ hg HB.out); have n7 := aM_ (nL_ hg BK177.out); have n8 := aM_ (nG_ hg BK177.out); have n9 := aM_ (nL_ hg BK178.out); have n10 := aM_ (nG_ hg BK178.out); clear HO181; clear BK177; clear BK178; clear HB; have HO181 := n0; have BK177 := n1; have BK178 := n2; have HB := n3; have BK182 := n4; have GW182 := n5; have GE182 := n6; have NB177_182 := n7; have NB182_177 := n8; have NB178_182 := n9; have NB182_178 := n10; clear n0 n1 n2 n3 n4 n5 n6 n7 n8 n9 n10; clear hb hbox hg; obtain ⟨Ao14, co14, eo14⟩ := Kd.S_slice HO181.out; subst eo14; have hnb15 := NB182_177.out; have hnc15 := NB177_182.out; have hnb16 := NB182_178.out; have hnc16 := NB178_182.out; have hcz17_0 : w13.cell? ⟨gb182, 0, none⟩ = some (.slice none 0 0) := (blk_cell BK182.out 0).trans rfl; have hfz17_0 := blk_frozen BK182.out 0))
 (try simp only [Act.put, List.setIfInBounds_toArray, List.set_cons_zero, List.set_cons_succ])
 go_cut [34] (fun v34 wc => ∃ (kq : Nat) (x34_6 : Bool), v34 = .bool x34_6 ∧ Aside0 (impl_Store.j0 kq l1 a2 a3 a4 x34_6 t179 = some (r1, r2)) ∧ Aside0 (kq ≤ k) ∧ Aside0 (Kd.S (sslice 43 k43) 44 wc w.heap.size (fun _ => True) (.slice Ao14 t179.length co14) t179) ∧ Aside0 (wc.heap[gb177]? = some (.cells #[(.slice A0_0 l0_0.length c0_0)] 24 (0, 0))) ∧ Aside0 (wc.heap[gb178]? = some (.cells #[(.slice none 0 0)] 24 (0, 0))) ∧ Aside0 (wc.heap[gb182]? = some (.cells #[(.slice Ao14 t179.length co14)] 24 (0, 0))) ∧ Aside0 (Below w.heap.size w wc))
 case first =>
  have H := HC7.out
  clear HC7
  replace H := Option.bind_eq_some_iff.mp H
  obtain ⟨t183, A180, H⟩ := H
  replace H : (if t183 = true then ((impl_ViewOk.f k l0_0 l1).bind fun t184 => (if t184 = true then ((impl_isCell.f a2).bind fun t185 => (if t185 = true then ((impl_Memory_hasRoom.f l0_0 a2).bind fun t186 => (impl_Store.j0 k l1 a2 a3 a4 (!t186) t179)) else (impl_Store.j0 k l1 a2 a3 a4 true t179))) else (impl_Store.j0 k l1 a2 a3 a4 true t179))) else (impl_Store.j0 k l1 a2 a3 a4 true t179)) = some (r1, r2) := H
  have A18 := aM_ A180
  clear A180
  by_cases c19 : t183 = true
  ·subst c19
   have H1 : ((impl_ViewOk.f k l0_0 l1).bind fun t184 => (if t184 = true then ((impl_isCell.f a2).bind fun t185 => (if t185 = true then ((impl_Memory_hasRoom.f l0_0 a2).bind fun t186 => (impl_Store.j0 k l1 a2 a3 a4 (!t186) t179)) else (impl_Store.j0 k l1 a2 a3 a4 true t179))) else (impl_Store.j0 k l1 a2 a3 a4 true t179))) = some (r1, r2) := by rw [if_pos rfl] at H; exact H
   clear H
   have H := H1
   clear H1
   replace H := Option.bind_eq_some_iff.mp H
   obtain ⟨t184, A200, H⟩ := H
   replace H : (if t184 = true then ((impl_isCell.f a2).bind fun t185 => (if t185 = true then ((impl_Memory_hasRoom.f l0_0 a2).bind fun t186 => (impl_Store.j0 k l1 a2 a3 a4 (!t186) t179)) else (impl_Store.j0 k l1 a2 a3 a4 true t179))) else (impl_Store.j0 k l1 a2 a3 a4 true t179)) = some (r1, r2) := H
   have A20 := aM_ A200
   clear A200
   by_cases c21 : t184 = true
   ·subst c21
    have H1 : ((impl_isCell.f a2).bind fun t185 => (if t185 = true then ((impl_Memory_hasRoom.f l0_0 a2).bind fun t186 => (impl_Store.j0 k l1 a2 a3 a4 (!t186) t179)) else (impl_Store.j0 k l1 a2 a3 a4 true t179))) = some (r1, r2) := by rw [if_pos rfl] at H; exact H
    clear H
    have H := H1
    clear H1
    replace H := Option.bind_eq_some_iff.mp H
    obtain ⟨t185, A220, H⟩ := H
    replace H : (if t185 = true then ((impl_Memory_hasRoom.f l0_0 a2).bind fun t186 => (impl_Store.j0 k l1 a2 a3 a4 (!t186) t179)) else (impl_Store.j0 k l1 a2 a3 a4 true t179)) = some (r1, r2) := H
    have A22 := aM_ A220
    clear A220
    by_cases c23 : t185 = true
    ·subst c23
     have H1 : ((impl_Memory_hasRoom.f l0_0 a2).bind fun t186 => (impl_Store.j0 k l1 a2 a3 a4 (!t186) t179)) = some (r1, r2) := by rw [if_pos rfl] at H; exact H
     clear H
     have H := H1
     clear H1
     replace H := Option.bind_eq_some_iff.mp H
     obtain ⟨t186, A240, H⟩ := H
     replace H : (impl_Store.j0 k l1 a2 a3 a4 (!t186) t179) = some (r1, r2) := H
     have A24 := aM_ A240
     clear A240
     have H' := aM_ H
     clear H
     have hnb25 := NB177_178.out
     have hnc25 := NB178_177.out
     have hnb26 := NB177_182.out
     have hnc26 := NB182_177.out
     have hcz27_0 : w13.cell? ⟨gb177, 0, none⟩ = some (.slice A0_0 l0_0.length c0_0) := (blk_cell BK177.out 0).trans rfl
     have hfz27_0 := blk_frozen BK177.out 0
     go_wp2_with (first | ((with_reducible refine gate_callee (f := 26) rfl ?_); refine gL_ (some 17) Try.func26 #[.agg #[.slice A0_0 l0_0.length c0_0]] ?_; (with_reducible refine (impl_MemoryOk.calls k _ _ l0_0 true _ ?side1 ?side2 A18.out).mono ?_); (case side1 => exact Kd.C_below HR0_0.out (gB_ HB.out)); (case side2 => exact HC0_0.out); rintro e w28 ⟨rfl, hb⟩; refine ⟨_, rfl, ?_⟩; have n0 := aM_ (Kd.S_below (by (with_reducible repeat (first | apply Kd.S_alloc | apply Kd.S_drewN | apply Kd.S_drew)); exact (Kd.S_mono (Kd.S_far (p := ⟨gb182, 0, none⟩) (Kd.S_types HO181.out BK182.out (by decide)) (fun _ hk => hk.2) (.slice Ao14 t179.length co14)) (fun _ h_ => h_.1))) hb); have n1 := aM_ (nBf_ BK177.out hb); have n2 := aM_ (nBf_ BK178.out hb); have n3 := aM_ (blk_below (g := gb182) (o := .cells #[.slice Ao14 t179.length co14] 24 (0, 0)) (by (with_reducible repeat (first | refine bN_ ?_ _ | refine bD_ ?_ | refine bA_ ?_ _)); refine blk_put (cs := #[.slice none 0 0]) ?_ 0 _ rfl; exact rW_ BK182.out) hb); have n4 := aM_ (sT_ HB.out hb); clear HO181; clear BK177; clear BK178; clear BK182; clear HB; have HO181 := n0; have BK177 := n1; have BK178 := n2; have BK182 := n3; have HB := n4; clear n0 n1 n2 n3 n4; have hcz29_0 : w28.cell? ⟨gb177, 0, none⟩ = some (.slice A0_0 l0_0.length c0_0) := (blk_cell BK177.out 0).trans rfl; have hfz29_0 := blk_frozen BK177.out 0) | (go_at_call 28; (with_reducible refine (impl_ViewOk.calls k _ _ l0_0 _ _ l1 true _ ?side1 ?side2 ?side3 ?side4 A20.out).mono ?_); (case side1 => exact cS_ (Kd.C_below HR0_0.out HB.out)); (case side2 => exact HC0_0.out); (case side3 => exact cS_ (Kd.C_below HR1.out HB.out)); (case side4 => exact HC1.out); rintro e w30 ⟨rfl, hb⟩; have n0 := aM_ (bS_ HO181.out hb); have n1 := aM_ (nB_ BK177.out hb); have n2 := aM_ (nB_ BK178.out hb); have n3 := aM_ (nB_ BK182.out hb); have n4 := aM_ (sT_ HB.out hb); clear HO181; clear BK177; clear BK178; clear BK182; clear HB; have HO181 := n0; have BK177 := n1; have BK178 := n2; have BK182 := n3; have HB := n4; clear n0 n1 n2 n3 n4) | (go_at_call 56; (with_reducible refine (impl_isCell.calls a2 true _ A22.out).mono ?_); rintro e w' ⟨rfl, ⟨nd, rfl⟩⟩) | (go_at_call 57; (with_reducible refine (impl_Memory_hasRoom.calls gb177 A0_0 c0_0 l0_0 a2 t186 _ ?sideK ?side1 ?side2 A24.out).mono ?_); (case sideK => exact (by (with_reducible repeat (first | refine bN_ ?_ _ | refine bD_ ?_ | refine bA_ ?_ _)); exact BK177.out)); (case side1 => exact cS_ (Kd.C_below HR0_0.out (gB_ HB.out))); (case side2 => exact HC0_0.out); rintro e w31 ⟨rfl, hb⟩; have n0 := aM_ (bS_ HO181.out hb); have n1 := aM_ (nB_ BK177.out hb); have n2 := aM_ (nB_ BK178.out hb); have n3 := aM_ (nB_ BK182.out hb); have n4 := aM_ (sT_ HB.out hb); clear HO181; clear BK177; clear BK178; clear BK182; clear HB; have HO181 := n0; have BK177 := n1; have BK178 := n2; have BK182 := n3; have HB := n4; clear n0 n1 n2 n3 n4))
     go_meet
     case rel => exact ⟨_, (!t186), (by first | rfl | (simp; done) | (simp [*]; done)), H', ⟨by first | omega | exact Nat.le_refl _⟩, ⟨by (with_reducible repeat (first | apply Kd.S_alloc | apply Kd.S_drewN | apply Kd.S_drew)); exact HO181.out⟩, ⟨rW_ BK177.out⟩, ⟨rW_ BK178.out⟩, ⟨rW_ BK182.out⟩, ⟨gW_ HB.out⟩⟩
    ·replace c23 := Bool.eq_false_iff.mpr c23
     subst c23
     have H1 : (impl_Store.j0 k l1 a2 a3 a4 true t179) = some (r1, r2) := by rw [if_neg (show ¬ (false = true) by decide)] at H; exact H
     clear H
     have H := H1
     clear H1
     have H' := aM_ H
     clear H
     have hnb32 := NB177_178.out
     have hnc32 := NB178_177.out
     have hnb33 := NB177_182.out
     have hnc33 := NB182_177.out
     have hcz34_0 : w13.cell? ⟨gb177, 0, none⟩ = some (.slice A0_0 l0_0.length c0_0) := (blk_cell BK177.out 0).trans rfl
     have hfz34_0 := blk_frozen BK177.out 0
     go_wp2_with (first | ((with_reducible refine gate_callee (f := 26) rfl ?_); refine gL_ (some 17) Try.func26 #[.agg #[.slice A0_0 l0_0.length c0_0]] ?_; (with_reducible refine (impl_MemoryOk.calls k _ _ l0_0 true _ ?side1 ?side2 A18.out).mono ?_); (case side1 => exact Kd.C_below HR0_0.out (gB_ HB.out)); (case side2 => exact HC0_0.out); rintro e w35 ⟨rfl, hb⟩; refine ⟨_, rfl, ?_⟩; have n0 := aM_ (Kd.S_below (by (with_reducible repeat (first | apply Kd.S_alloc | apply Kd.S_drewN | apply Kd.S_drew)); exact (Kd.S_mono (Kd.S_far (p := ⟨gb182, 0, none⟩) (Kd.S_types HO181.out BK182.out (by decide)) (fun _ hk => hk.2) (.slice Ao14 t179.length co14)) (fun _ h_ => h_.1))) hb); have n1 := aM_ (nBf_ BK177.out hb); have n2 := aM_ (nBf_ BK178.out hb); have n3 := aM_ (blk_below (g := gb182) (o := .cells #[.slice Ao14 t179.length co14] 24 (0, 0)) (by (with_reducible repeat (first | refine bN_ ?_ _ | refine bD_ ?_ | refine bA_ ?_ _)); refine blk_put (cs := #[.slice none 0 0]) ?_ 0 _ rfl; exact rW_ BK182.out) hb); have n4 := aM_ (sT_ HB.out hb); clear HO181; clear BK177; clear BK178; clear BK182; clear HB; have HO181 := n0; have BK177 := n1; have BK178 := n2; have BK182 := n3; have HB := n4; clear n0 n1 n2 n3 n4; have hcz36_0 : w35.cell? ⟨gb177, 0, none⟩ = some (.slice A0_0 l0_0.length c0_0) := (blk_cell BK177.out 0).trans rfl; have hfz36_0 := blk_frozen BK177.out 0) | (go_at_call 28; (with_reducible refine (impl_ViewOk.calls k _ _ l0_0 _ _ l1 true _ ?side1 ?side2 ?side3 ?side4 A20.out).mono ?_); (case side1 => exact cS_ (Kd.C_below HR0_0.out HB.out)); (case side2 => exact HC0_0.out); (case side3 => exact cS_ (Kd.C_below HR1.out HB.out)); (case side4 => exact HC1.out); rintro e w37 ⟨rfl, hb⟩; have n0 := aM_ (bS_ HO181.out hb); have n1 := aM_ (nB_ BK177.out hb); have n2 := aM_ (nB_ BK178.out hb); have n3 := aM_ (nB_ BK182.out hb); have n4 := aM_ (sT_ HB.out hb); clear HO181; clear BK177; clear BK178; clear BK182; clear HB; have HO181 := n0; have BK177 := n1; have BK178 := n2; have BK182 := n3; have HB := n4; clear n0 n1 n2 n3 n4) | (go_at_call 56; (with_reducible refine (impl_isCell.calls a2 false _ A22.out).mono ?_); rintro e w' ⟨rfl, ⟨nd, rfl⟩⟩))
     go_meet
     case rel => exact ⟨_, (true), (by first | rfl | (simp; done) | (simp [*]; done)), H', ⟨by first | omega | exact Nat.le_refl _⟩, ⟨by (with_reducible repeat (first | apply Kd.S_alloc | apply Kd.S_drewN | apply Kd.S_drew)); exact HO181.out⟩, ⟨rW_ BK177.out⟩, ⟨rW_ BK178.out⟩, ⟨rW_ BK182.out⟩, ⟨gW_ HB.out⟩⟩
   ·replace c21 := Bool.eq_false_iff.mpr c21
    subst c21
    have H1 : (impl_Store.j0 k l1 a2 a3 a4 true t179) = some (r1, r2) := by rw [if_neg (show ¬ (false = true) by decide)] at H; exact H
    clear H
    have H := H1
    clear H1
    have H' := aM_ H
    clear H
    have hnb38 := NB177_178.out
    have hnc38 := NB178_177.out
    have hnb39 := NB177_182.out
    have hnc39 := NB182_177.out
    have hcz40_0 : w13.cell? ⟨gb177, 0, none⟩ = some (.slice A0_0 l0_0.length c0_0) := (blk_cell BK177.out 0).trans rfl
    have hfz40_0 := blk_frozen BK177.out 0
    go_wp2_with (first | ((with_reducible refine gate_callee (f := 26) rfl ?_); refine gL_ (some 17) Try.func26 #[.agg #[.slice A0_0 l0_0.length c0_0]] ?_; (with_reducible refine (impl_MemoryOk.calls k _ _ l0_0 true _ ?side1 ?side2 A18.out).mono ?_); (case side1 => exact Kd.C_below HR0_0.out (gB_ HB.out)); (case side2 => exact HC0_0.out); rintro e w41 ⟨rfl, hb⟩; refine ⟨_, rfl, ?_⟩; have n0 := aM_ (Kd.S_below (by (with_reducible repeat (first | apply Kd.S_alloc | apply Kd.S_drewN | apply Kd.S_drew)); exact (Kd.S_mono (Kd.S_far (p := ⟨gb182, 0, none⟩) (Kd.S_types HO181.out BK182.out (by decide)) (fun _ hk => hk.2) (.slice Ao14 t179.length co14)) (fun _ h_ => h_.1))) hb); have n1 := aM_ (nBf_ BK177.out hb); have n2 := aM_ (nBf_ BK178.out hb); have n3 := aM_ (blk_below (g := gb182) (o := .cells #[.slice Ao14 t179.length co14] 24 (0, 0)) (by (with_reducible repeat (first | refine bN_ ?_ _ | refine bD_ ?_ | refine bA_ ?_ _)); refine blk_put (cs := #[.slice none 0 0]) ?_ 0 _ rfl; exact rW_ BK182.out) hb); have n4 := aM_ (sT_ HB.out hb); clear HO181; clear BK177; clear BK178; clear BK182; clear HB; have HO181 := n0; have BK177 := n1; have BK178 := n2; have BK182 := n3; have HB := n4; clear n0 n1 n2 n3 n4; have hcz42_0 : w41.cell? ⟨gb177, 0, none⟩ = some (.slice A0_0 l0_0.length c0_0) := (blk_cell BK177.out 0).trans rfl; have hfz42_0 := blk_frozen BK177.out 0) | (go_at_call 28; (with_reducible refine (impl_ViewOk.calls k _ _ l0_0 _ _ l1 false _ ?side1 ?side2 ?side3 ?side4 A20.out).mono ?_); (case side1 => exact cS_ (Kd.C_below HR0_0.out HB.out)); (case side2 => exact HC0_0.out); (case side3 => exact cS_ (Kd.C_below HR1.out HB.out)); (case side4 => exact HC1.out); rintro e w43 ⟨rfl, hb⟩; have n0 := aM_ (bS_ HO181.out hb); have n1 := aM_ (nB_ BK177.out hb); have n2 := aM_ (nB_ BK178.out hb); have n3 := aM_ (nB_ BK182.out hb); have n4 := aM_ (sT_ HB.out hb); clear HO181; clear BK177; clear BK178; clear BK182; clear HB; have HO181 := n0; have BK177 := n1; have BK178 := n2; have BK182 := n3; have HB := n4; clear n0 n1 n2 n3 n4))
    go_meet
    case rel => exact ⟨_, (true), (by first | rfl | (simp; done) | (simp [*]; done)), H', ⟨by first | omega | exact Nat.le_refl _⟩, ⟨by (with_reducible repeat (first | apply Kd.S_alloc | apply Kd.S_drewN | apply Kd.S_drew)); exact HO181.out⟩, ⟨rW_ BK177.out⟩, ⟨rW_ BK178.out⟩, ⟨rW_ BK182.out⟩, ⟨gW_ HB.out⟩⟩
  ·replace c19 := Bool.eq_false_iff.mpr c19
   subst c19
   have H1 : (impl_Store.j0 k l1 a2 a3 a4 true t179) = some (r1, r2) := by rw [if_neg (show ¬ (false = true) by decide)] at H; exact H
   clear H
   have H := H1
   clear H1
   have H' := aM_ H
   clear H
   have hnb44 := NB177_178.out
   have hnc44 := NB178_177.out
   have hnb45 := NB177_182.out
   have hnc45 := NB182_177.out
   have hcz46_0 : w13.cell? ⟨gb177, 0, none⟩ = some (.slice A0_0 l0_0.length c0_0) := (blk_cell BK177.out 0).trans rfl
   have hfz46_0 := blk_frozen BK177.out 0
   go_wp2_with (first | ((with_reducible refine gate_callee (f := 26) rfl ?_); refine gL_ (some 17) Try.func26 #[.agg #[.slice A0_0 l0_0.length c0_0]] ?_; (with_reducible refine (impl_MemoryOk.calls k _ _ l0_0 false _ ?side1 ?side2 A18.out).mono ?_); (case side1 => exact Kd.C_below HR0_0.out (gB_ HB.out)); (case side2 => exact HC0_0.out); rintro e w47 ⟨rfl, hb⟩; refine ⟨_, rfl, ?_⟩; have n0 := aM_ (Kd.S_below (by (with_reducible repeat (first | apply Kd.S_alloc | apply Kd.S_drewN | apply Kd.S_drew)); exact (Kd.S_mono (Kd.S_far (p := ⟨gb182, 0, none⟩) (Kd.S_types HO181.out BK182.out (by decide)) (fun _ hk => hk.2) (.slice Ao14 t179.length co14)) (fun _ h_ => h_.1))) hb); have n1 := aM_ (nBf_ BK177.out hb); have n2 := aM_ (nBf_ BK178.out hb); have n3 := aM_ (blk_below (g := gb182) (o := .cells #[.slice Ao14 t179.length co14] 24 (0, 0)) (by (with_reducible repeat (first | refine bN_ ?_ _ | refine bD_ ?_ | refine bA_ ?_ _)); refine blk_put (cs := #[.slice none 0 0]) ?_ 0 _ rfl; exact rW_ BK182.out) hb); have n4 := aM_ (sT_ HB.out hb); clear HO181; clear BK177; clear BK178; clear BK182; clear HB; have HO181 := n0; have BK177 := n1; have BK178 := n2; have BK182 := n3; have HB := n4; clear n0 n1 n2 n3 n4))
   go_meet
   case rel => exact ⟨_, (true), (by first | rfl | (simp; done) | (simp [*]; done)), H', ⟨by first | omega | exact Nat.le_refl _⟩, ⟨by (with_reducible repeat (first | apply Kd.S_alloc | apply Kd.S_drewN | apply Kd.S_drew)); exact HO181.out⟩, ⟨rW_ BK177.out⟩, ⟨rW_ BK178.out⟩, ⟨rW_ BK182.out⟩, ⟨gW_ HB.out⟩⟩
 case rest =>
  clear HC7
  try clear c1
  try clear c2
  try clear p2
  try clear c3
  try clear c4
  try clear c5
  try clear c10
  try clear c15
  try clear c16
  try clear c19
  try clear c20
  try clear c21
  try clear c23
  try clear c25
  try clear c26
  try clear c32
  try clear c33
  try clear c38
  try clear c39
  try clear c44
  try clear c45
  try clear hcz11_0 hfz11_0
  try clear hcz17_0 hfz17_0
  try clear hcz27_0 hfz27_0
  try clear hcz29_0 hfz29_0
  try clear hcz34_0 hfz34_0
  try clear hcz36_0 hfz36_0
  try clear hcz40_0 hfz40_0
  try clear hcz42_0 hfz42_0
  try clear hcz46_0 hfz46_0
  obtain ⟨kq, x34_6, rfl, HA, HJ6, HO_183000, BK177, BK178, BK182, HB⟩ := hcut
  cases kq with
  | zero => exact absurd HA.out (by simp [impl_Store.j0])
  | succ kj6 =>
   have H := HA.out
   clear HA
   simp only [impl_Store.j0] at H
   by_cases c48 : x34_6 = true
   ·subst c48
    have H1 : ((impl_copyInts.f l1).bind fun t187 => (some (t179, t187))) = some (r1, r2) := by rw [if_pos rfl] at H; exact H
    clear H
    have H := H1
    clear H1
    replace H := Option.bind_eq_some_iff.mp H
    obtain ⟨t187, A490, H⟩ := H
    replace H : (some (t179, t187)) = some (r1, r2) := H
    have A49 := aM_ A490
    clear A490
    simp only [Option.some.injEq, Prod.mk.injEq] at H
    obtain ⟨rfl, rfl⟩ := H
    try go_wp2
    have n0 := aM_ (Kd.S_drew HO_183000.out)
    have n1 := aM_ (blk_drew BK177.out)
    have n2 := aM_ (blk_drew BK178.out)
    have n3 := aM_ (blk_drew BK182.out)
    have n4 := aM_ (below_drew1 HB.out)
    clear HO_183000
    clear BK177
    clear BK178
    clear BK182
    clear HB
    have HO_183000 := n0
    have BK177 := n1
    have BK178 := n2
    have BK182 := n3
    have HB := n4
    clear n0 n1 n2 n3 n4
    refine start_ (n := 5) (S := fun w' => w'.cell? ⟨gb182, 0, none⟩ = some (.slice Ao14 t179.length co14)) (ds := []) (mk_ 5 0) (by kernel_rfl) rfl rfl ((blk_cell BK182.out 0).trans rfl) (fun hHeld => ?_)
    generalize wc.drew = w50 at HO_183000 BK177 BK178 BK182 HB hHeld ⊢
    refine pU_ 1 (some 36) (mk_ 5 2) ?_
    refine take_ (i := 0) (N := some 35) (v := ?_) (a' := ?_) #[true, true, false, false, false] rfl rfl (by kernel_rfl) (fun _ _ _ h => h) (Or.inl ⟨by rfl, ?_⟩) hHeld ?_ ?_
    rotate_left
    ·intro w' s0
     go_simp
     with_reducible rfl
    rotate_left
    ·simp only [pt_, pn_, sI_, s0_, s1_, i64_w, i32_w]
     rfl
    refine oN_ 2 (some 37) (mk_ 5 7) (fun K hK => ?_)
    refine gO_ Try.func58 #[.slice A1 l1.length c1] ?_
    with_reducible refine (impl_copyInts.calls _ _ l1 t187 _ ?side1 ?side2 A49.out).mono ?_
    (case side1 => exact cS_ (Kd.C_below HR1.out HB.out))
    (case side2 => exact HC1.out)
    rintro e w51 ⟨v188, rfl, ho0, hb⟩
    refine ⟨_, rfl, ?_⟩
    have n0 := aM_ (Kd.S_elder' (by (with_reducible repeat (first | apply Kd.S_alloc | apply Kd.S_drewN | apply Kd.S_drew)); exact HO_183000.out) (Kd.R_base ho0) hb)
    have n1 := aM_ (Kd.R_lower ho0 (below_size (gB_ HB.out)))
    have n2 := aM_ (nB_ BK177.out hb)
    have n3 := aM_ (nB_ BK178.out hb)
    have n4 := aM_ (nB_ BK182.out hb)
    have n5 := aM_ (sT_ HB.out hb)
    clear HO_183000
    clear BK177
    clear BK178
    clear BK182
    clear HB
    have HO_183000 := n0
    have HO189 := n1
    have BK177 := n2
    have BK178 := n3
    have BK182 := n4
    have HB := n5
    clear n0 n1 n2 n3 n4 n5
    (try clear hb)
    (try clear hb2)
    (try clear hk)
    (try clear hi)
    (try clear ho0)
    refine hK.out _ _ ((blk_cell BK182.out 0).trans rfl) (fun hHeld => ?_)
    clear hK K
    refine norm_ (a' := ?_) ?_ ?_
    rotate_left
    ·show Act.put _ (some 37) _ = _
     simp only [pt_, pn_, sI_, s0_, s1_, i64_w, i32_w]
     rfl
    refine oN_ 3 (none) (mk_ 5 15) (fun K hK => ?_)
    have hs52 : w51.cell? ⟨gb178, 0, none⟩ = some (.slice none 0 0) := (blk_cell BK178.out 0).trans rfl
    have hfs52 := blk_frozen BK178.out 0
    have hns52_0 := NB177_178.out
    have hns52_2 := NB182_178.out
    have hms52_0 := NB178_177.out
    have hms52_2 := NB178_182.out
    refine skip_ (w1 := ?_) (by rfl) rfl ?_ ?_
    rotate_left
    ·go_simp
     rfl
    refine hK.out _ _ ((cf_ NB182_178.out hHeld)) (fun hHeld => ?_)
    clear hK K
    refine pU_ 4 (some 11) (mk_ 5 31) ?_
    refine done_ (by kernel_rfl) ?_
    try go_wp2
    refine bodyPost_ret (results_ct rfl _ _ gb178 24 #[.slice Ao14 t179.length co14] (0, 0) _ rfl (by (with_reducible repeat (first | refine bN_ ?_ _ | refine bD_ ?_ | refine bA_ ?_ _)); refine blk_put (cs := #[.slice none 0 0]) ?_ 0 _ rfl; exact rW_ BK178.out) Try.underlying24 rfl (by kernel_rfl)) rfl ?_
    exact ⟨_, _, fR_, by (with_reducible repeat (first | apply Kd.S_alloc | apply Kd.S_drewN | apply Kd.S_drew)); exact Kd.S_mono (Kd.S_far (p := ⟨gb178, 0, none⟩) (Kd.S_types HO_183000.out BK178.out (by decide)) (fun _ hk => hk.2) (.slice Ao14 t179.length co14)) (fun _ hk => hk.1.2), by (with_reducible repeat (first | apply rA_ | apply rN_ | apply rD_)); exact Kd.R_mono (Kd.R_far (p := ⟨gb178, 0, none⟩) (Kd.R_types HO189.out BK178.out (by decide)) (fun _ hk => hk.2) (.slice Ao14 t179.length co14)) (fun _ hk => trivial), gB_ HB.out⟩
   ·replace c48 := Bool.eq_false_iff.mpr c48
    subst c48
    have H1 : ((impl_Memory_store.f t179 l1 a2 a3 a4).bind fun bt190 => (some (bt190.1, bt190.2))) = some (r1, r2) := by rw [if_neg (show ¬ (false = true) by decide)] at H; exact H
    clear H
    have H := H1
    clear H1
    replace H := Option.bind_eq_some_iff.mp H
    obtain ⟨⟨t190m, t190⟩, A530, H⟩ := H
    replace H : (some (t190m, t190)) = some (r1, r2) := H
    have A53 := aM_ A530
    clear A530
    simp only [Option.some.injEq, Prod.mk.injEq] at H
    obtain ⟨rfl, rfl⟩ := H
    have hnb54 := NB182_177.out
    have hnc54 := NB177_182.out
    have hnb55 := NB182_178.out
    have hnc55 := NB178_182.out
    have hcz56_0 : wc.cell? ⟨gb182, 0, none⟩ = some (.slice Ao14 t179.length co14) := (blk_cell BK182.out 0).trans rfl
    have hfz56_0 := blk_frozen BK182.out 0
    go_wp2_with (first | ((with_reducible refine gate_callee (f := 59) rfl ?_); refine gL_ (some 42) Try.func59 #[.pointer (some ⟨gb182, 0, none⟩), .slice A1 l1.length c1, .int .i64 a2, .int .i64 a3, .bool a4] ?_; (with_reducible refine (impl_Memory_store.calls (fun k_ => ((((w.heap.size ≤ k_) ∧ k_ ≠ gb177) ∧ k_ ≠ gb178) ∧ k_ ≠ gb182)) gb182 Ao14 co14 t179 _ _ l1 a2 a3 a4 t190m t190 w.heap.size _ ?sideK ?side1 ?sideB ?side3 ?side4 A53.out).mono ?_); (case sideK => exact BK182.out); (case side1 => have h9_ := Kd.S_types (Kd.S_types (Kd.S_types (Kd.S_bound HO_183000.out) BK177.out (by decide)) BK178.out (by decide)) BK182.out (by decide); exact Kd.S_mono h9_ (fun _ hk => ⟨⟨⟨hk.1.1.1.2.1, hk.1.1.2⟩, hk.1.2⟩, hk.2⟩)); (case sideB => exact (below_size (gB_ HB.out))); (case side3 => exact cS_ (Kd.C_below HR1.out HB.out)); (case side4 => exact HC1.out); rintro e w57 ⟨v191, rfl, hbk_, ho9_, ho0, hb, hk_⟩; refine ⟨_, rfl, ?_⟩; have n0 := aM_ (Kd.S_mono (ok' := fun k_ => (w.heap.size ≤ k_) ∧ some k_ ≠ (v191 : Value).ownBlock) ho9_ (fun k hk => ⟨hk.1.elim (fun h => h.1.1.1) (fun h => Nat.le_trans (below_size (gB_ HB.out)) h), hk.2⟩)); have n1 := aM_ (Kd.R_lower ho0 (below_size (gB_ HB.out))); have n2 := aM_ (blk_kept (g := gb177) (o := .cells #[.slice A0_0 l0_0.length c0_0] 24 (0, 0)) (by (with_reducible repeat (first | refine bN_ ?_ _ | refine bD_ ?_ | refine bA_ ?_ _)); exact BK177.out) hk_ (fun h_ => absurd rfl (by first | exact h_.2 | exact h_.1.2 | exact h_.1.1.2))); have n3 := aM_ (blk_kept (g := gb178) (o := .cells #[.slice none 0 0] 24 (0, 0)) (by (with_reducible repeat (first | refine bN_ ?_ _ | refine bD_ ?_ | refine bA_ ?_ _)); exact BK178.out) hk_ (fun h_ => absurd rfl (by first | exact h_.2 | exact h_.1.2 | exact h_.1.1.2))); have n4 := aM_ hbk_; have n5 := aM_ (Below.trans (gB_ HB.out) hb); clear HO_183000; clear BK177; clear BK178; clear BK182; clear HB; have HO_183000 := n0; have HO192 := n1; have BK177 := n2; have BK178 := n3; have BK182 := n4; have HB := n5; clear n0 n1 n2 n3 n4 n5; (try clear hb); (try clear hk_ hbk_ ho9_); (try clear hb2); (try clear hk); (try clear hi); (try clear ho0); have hcz58_0 : w57.cell? ⟨gb182, 0, none⟩ = some (.slice Ao14 t179.length co14) := (blk_cell BK182.out 0).trans rfl; have hfz58_0 := blk_frozen BK182.out 0; have hnb59 := NB178_177.out; have hnc59 := NB177_178.out; have hcz60_0 : w57.cell? ⟨gb178, 0, none⟩ = some (.slice none 0 0) := (blk_cell BK178.out 0).trans rfl; have hfz60_0 := blk_frozen BK178.out 0))
    refine bodyPost_ret (results_ct rfl _ _ gb178 24 #[.slice Ao14 t179.length co14] (0, 0) _ rfl (by (with_reducible repeat (first | refine bN_ ?_ _ | refine bD_ ?_ | refine bA_ ?_ _)); refine blk_put (cs := #[.slice none 0 0]) ?_ 0 _ rfl; exact rW_ BK178.out) Try.underlying24 rfl (by kernel_rfl)) rfl ?_
    exact ⟨_, _, fR_, by (with_reducible repeat (first | apply Kd.S_alloc | apply Kd.S_drewN | apply Kd.S_drew)); exact Kd.S_mono (Kd.S_far (p := ⟨gb178, 0, none⟩) (Kd.S_types HO_183000.out BK178.out (by decide)) (fun _ hk => hk.2) (.slice Ao14 t179.length co14)) (fun _ hk => hk.1.2), by (with_reducible repeat (first | apply rA_ | apply rN_ | apply rD_)); exact Kd.R_mono (Kd.R_far (p := ⟨gb178, 0, none⟩) (Kd.R_types HO192.out BK178.out (by decide)) (fun _ hk => hk.2) (.slice Ao14 t179.length co14)) (fun _ hk => trivial), gB_ HB.out⟩
def laws_szIntS.f (l0 : List Int) (a1 : Int) : Option (Int) := if (wrap64 (a1 - (l0.length : Int))) < 0 then (some (-1)) else (some (wrap64 (a1 - (l0.length : Int))))
set_option maxHeartbeats 8000000 in
set_option maxRecDepth 100000 in
theorem laws_szIntS.calls (A0 : Option Addr) (c0 : Nat) (l0 : List Int) (a1 : Int) (r : Int) (w : World) (hr0 : Kd.C (Kd.int .i64) w A0 l0.length l0) (hc0 : l0.length ≤ c0) (h : laws_szIntS.f l0 a1 = some r) :
  Calls Try.prog 115 #[.slice A0 l0.length c0, .int .i64 a1] w fun e w' => e = .returned (.int .i64 r) ∧ Drawn0 w w' := by
 have HR0 := aM_ hr0
 have HC0 := aM_ hc0
 clear hr0 hc0
 have H : (if (wrap64 (a1 - (l0.length : Int))) < 0 then (some (-1)) else (some (wrap64 (a1 - (l0.length : Int))))) = some r := h
 clear h
 by_cases c3 : (wrap64 (a1 - (l0.length : Int))) < 0
 ·rw [if_pos c3] at H
  have c3b0 : decide ((wrap64 (a1 - (l0.length : Int))) < 0) = true := decide_eq_true c3
  clear c3
  obtain rfl := Option.some.inj H
  go_enter Try.func115, Try.ntmps115
  go_wp2
  go_ret
  exact ⟨by first | rfl | (simp; done) | (simp [*]; done), by repeat (first | exact Drawn0.refl _ | apply Drawn0.step)⟩
 ·rw [if_neg c3] at H
  have c3b0 : decide ((wrap64 (a1 - (l0.length : Int))) < 0) = false := decide_eq_false c3
  clear c3
  obtain rfl := Option.some.inj H
  go_enter Try.func115, Try.ntmps115
  go_wp2
  go_ret
  exact ⟨by first | rfl | (simp; done) | (simp [*]; done), by repeat (first | exact Drawn0.refl _ | apply Drawn0.step)⟩
def laws_szWrite.f (a0_0 : Int) (l0_1 : List Int) (a1 : Int) : Option (Int) := (laws_szIntS.f l0_1 a1).bind fun t194 => (if t194 < 0 then (some (-1)) else (some t194))
set_option maxHeartbeats 8000000 in
set_option maxRecDepth 100000 in
theorem laws_szWrite.calls (a0_0 : Int) (A0_1 : Option Addr) (c0_1 : Nat) (l0_1 : List Int) (a1 : Int) (r : Int) (w : World) (hr0_1 : Kd.C (Kd.int .i64) w A0_1 l0_1.length l0_1) (hc0_1 : l0_1.length ≤ c0_1) (h : laws_szWrite.f a0_0 l0_1 a1 = some r) :
  Calls Try.prog 113 #[.agg #[.int .i64 a0_0, .slice A0_1 l0_1.length c0_1], .int .i64 a1] w fun e w' => e = .returned (.int .i64 r) ∧ Below w.heap.size w w' := by
 have hu139 := Try.underlying139
 have HR0_1 := aM_ hr0_1
 have HC0_1 := aM_ hc0_1
 clear hr0_1 hc0_1
 have HB := aM_ (Below.refl w.heap.size w)
 have H : ((laws_szIntS.f l0_1 a1).bind fun t194 => (if t194 < 0 then (some (-1)) else (some t194))) = some r := h
 clear h
 replace H := Option.bind_eq_some_iff.mp H
 obtain ⟨t194, A30, H⟩ := H
 replace H : (if t194 < 0 then (some (-1)) else (some t194)) = some r := H
 have A3 := aM_ A30
 clear A30
 by_cases c4 : t194 < 0
 ·rw [if_pos c4] at H
  have c4b0 : decide (t194 < 0) = true := decide_eq_true c4
  clear c4
  obtain rfl := Option.some.inj H
  go_enter Try.func113, Try.ntmps113
  go_wp2_with (first | ((with_reducible refine gate_dst (N := 2) rfl ?_); refine bX_ 2 (cs := #[.int .i64 a0_0, .slice A0_1 l0_1.length c0_1]) (t := 139) ?_; intro gb193 hg w5 hbox hb; have n0 := aM_ (sT_ HB.out hb); have n1 := aM_ (hbox); have n2 := aM_ (sZ_ hg HB.out); have n3 := aM_ (sZ_ hg HB.out); clear HB; have HB := n0; have BK193 := n1; have GW193 := n2; have GE193 := n3; clear n0 n1 n2 n3; clear hb hbox hg; obtain ⟨hcz6_0, hcz6_1, hfz6_0, hfz6_1⟩ := bR2_ BK193.out) | ((with_reducible refine gate_callee (f := 115) rfl ?_); refine gL_ (some 8) Try.func115 #[.slice A0_1 l0_1.length c0_1, .int .i64 a1] ?_; (with_reducible refine (laws_szIntS.calls _ _ l0_1 a1 t194 _ ?side1 ?side2 A3.out).mono ?_); (case side1 => exact cS_ (Kd.C_below HR0_1.out HB.out)); (case side2 => exact HC0_1.out); rintro e w' ⟨rfl, ⟨nd, rfl⟩⟩; refine ⟨_, rfl, ?_⟩))
  go_ret
  exact fI_ HB.out
 ·rw [if_neg c4] at H
  have c4b0 : decide (t194 < 0) = false := decide_eq_false c4
  clear c4
  obtain rfl := Option.some.inj H
  go_enter Try.func113, Try.ntmps113
  go_wp2_with (first | ((with_reducible refine gate_dst (N := 2) rfl ?_); refine bX_ 2 (cs := #[.int .i64 a0_0, .slice A0_1 l0_1.length c0_1]) (t := 139) ?_; intro gb193 hg w7 hbox hb; have n0 := aM_ (sT_ HB.out hb); have n1 := aM_ (hbox); have n2 := aM_ (sZ_ hg HB.out); have n3 := aM_ (sZ_ hg HB.out); clear HB; have HB := n0; have BK193 := n1; have GW193 := n2; have GE193 := n3; clear n0 n1 n2 n3; clear hb hbox hg; obtain ⟨hcz8_0, hcz8_1, hfz8_0, hfz8_1⟩ := bR2_ BK193.out) | ((with_reducible refine gate_callee (f := 115) rfl ?_); refine gL_ (some 8) Try.func115 #[.slice A0_1 l0_1.length c0_1, .int .i64 a1] ?_; (with_reducible refine (laws_szIntS.calls _ _ l0_1 a1 t194 _ ?side1 ?side2 A3.out).mono ?_); (case side1 => exact cS_ (Kd.C_below HR0_1.out HB.out)); (case side2 => exact HC0_1.out); rintro e w' ⟨rfl, ⟨nd, rfl⟩⟩; refine ⟨_, rfl, ?_⟩))
  go_ret
  exact fI_ HB.out
def laws_szWriteS.l0 : Nat → List (S139) → Int → Int → Option (Int)
  | 0, _, _, _ => none
  | k + 1, x0, x1, x5 => if x5 < (x0.length : Int) then (if 0 ≤ x5 then ((laws_szWrite.f ((rd_T139 x0 x5).f0) ((rd_T139 x0 x5).f1) x1).bind fun t196 => (if t196 < 0 then (some (-1)) else (laws_szWriteS.l0 k x0 t196 (wrap64 (x5 + 1))))) else (none)) else (some x1)
def laws_szWriteS.f (k : Nat) (l0 : List (S139)) (a1 : Int) : Option (Int) := if (wrap64 (a1 - (l0.length : Int))) < 0 then (some (-1)) else (laws_szWriteS.l0 k l0 (wrap64 (a1 - (l0.length : Int))) 0)
set_option maxHeartbeats 8000000 in
set_option maxRecDepth 100000 in
theorem laws_szWriteS.calls (k : Nat) (A0 : Option Addr) (c0 : Nat) (l0 : List (S139)) (a1 : Int) (r : Int) (w : World) (hr0 : Kd.C k139 w A0 l0.length l0) (hc0 : l0.length ≤ c0) (h : laws_szWriteS.f k l0 a1 = some r) :
  Calls Try.prog 98 #[.slice A0 l0.length c0, .int .i64 a1] w fun e w' => e = .returned (.int .i64 r) ∧ Below w.heap.size w w' := by
 have hu139 := Try.underlying139
 have HR0 := aM_ hr0
 have HC0 := aM_ hc0
 clear hr0 hc0
 have HB := aM_ (Below.refl w.heap.size w)
 have H : (if (wrap64 (a1 - (l0.length : Int))) < 0 then (some (-1)) else (laws_szWriteS.l0 k l0 (wrap64 (a1 - (l0.length : Int))) 0)) = some r := h
 clear h
 by_cases c3 : (wrap64 (a1 - (l0.length : Int))) < 0
 ·rw [if_pos c3] at H
  have c3b0 : decide ((wrap64 (a1 - (l0.length : Int))) < 0) = true := decide_eq_true c3
  clear c3
  obtain rfl := Option.some.inj H
  go_enter Try.func98, Try.ntmps98
  go_wp2
  go_ret
  exact fI_ HB.out
 ·rw [if_neg c3] at H
  have c3b0 : decide ((wrap64 (a1 - (l0.length : Int))) < 0) = false := decide_eq_false c3
  clear c3
  have H' := aM_ H
  clear H
  go_enter Try.func98, Try.ntmps98
  go_wp2
  go_loopg [1, 5] k (fun kq v1 v5 w' => ∃ (x1_1 : Int) (x5_1 : Int), v1 = .int .i64 x1_1 ∧ v5 = .int .i64 x5_1 ∧ Aside0 (laws_szWriteS.l0 kq l0 x1_1 x5_1 = some r) ∧ Aside0 (kq ≤ k) ∧ Aside0 (Below w.heap.size w w'))
  case atStart => exact ⟨(wrap64 (a1 - (l0.length : Int))), (0), (by first | rfl | (simp; done) | (simp [*]; done)), (by first | rfl | (simp; done) | (simp [*]; done)), H', ⟨Nat.le_refl _⟩, ⟨gW_ HB.out⟩⟩
  case round =>
   clear H'
   try clear p2
   try clear c3
   try clear c3b0
   obtain ⟨x1_1, x5_1, rfl, rfl, HA, HK1, HB⟩ := hrel
   cases gk with
   | zero => exact absurd HA.out (by simp [laws_szWriteS.l0])
   | succ k1 =>
    have H := HA.out
    clear HA
    simp only [laws_szWriteS.l0] at H
    by_cases c4 : x5_1 < (l0.length : Int)
    ·rw [if_pos c4] at H
     have c4b0 : decide (x5_1 < (l0.length : Int)) = true := decide_eq_true c4
     clear c4
     by_cases c5 : 0 ≤ x5_1
     ·rw [if_pos c5] at H
      have c5b0 : decide (0 ≤ x5_1) = true := decide_eq_true c5
      clear c5
      replace H := Option.bind_eq_some_iff.mp H
      obtain ⟨t196, A60, H⟩ := H
      replace H : (if t196 < 0 then (some (-1)) else (laws_szWriteS.l0 k1 l0 t196 (wrap64 (x5_1 + 1)))) = some r := H
      have A6 := aM_ A60
      clear A60
      by_cases c7 : t196 < 0
      ·rw [if_pos c7] at H
       have c7b0 : decide (t196 < 0) = true := decide_eq_true c7
       clear c7
       obtain rfl := Option.some.inj H
       have p195 : 0 ≤ (x5_1 : Int) := of_decide_eq_true (by first | (with_reducible assumption) | assumption)
       have q195 : x5_1 < (l0.length : Int) := of_decide_eq_true (by first | (with_reducible assumption) | assumption)
       obtain ⟨ad195, A195_1, c195_1, e195, hx195_0, hx195_1, hl195_1, hi195_1⟩ := at_T139 HR0.out x5_1 p195 q195
       cases e195
       replace hx195_0 := cB_ HB.out hx195_0
       replace hx195_1 := cB_ HB.out hx195_1
       have HR195_1 := aM_ hi195_1
       have HC195_1 := aM_ hl195_1
       clear hi195_1 hl195_1
       replace p195 := eq_true p195
       replace q195 := eq_true q195
       go_wp2_with (first | ((with_reducible refine gate_callee (f := 113) rfl ?_); refine gL_ (some 23) Try.func113 #[.agg #[.int .i64 ((rd_T139 l0 x5_1).f0), .slice A195_1 ((rd_T139 l0 x5_1).f1).length c195_1], .int .i64 x1_1] ?_; (with_reducible refine (laws_szWrite.calls ((rd_T139 l0 x5_1).f0) _ _ ((rd_T139 l0 x5_1).f1) x1_1 t196 _ ?side1 ?side2 A6.out).mono ?_); (case side1 => exact cS_ (Kd.C_below HR195_1.out HB.out)); (case side2 => exact HC195_1.out); rintro e w8 ⟨rfl, hb⟩; refine ⟨_, rfl, ?_⟩; have n0 := aM_ (sT_ HB.out hb); clear HB; have HB := n0; clear n0))
       go_ret
       exact fI_ HB.out
      ·rw [if_neg c7] at H
       have c7b0 : decide (t196 < 0) = false := decide_eq_false c7
       clear c7
       have H' := aM_ H
       clear H
       have p195 : 0 ≤ (x5_1 : Int) := of_decide_eq_true (by first | (with_reducible assumption) | assumption)
       have q195 : x5_1 < (l0.length : Int) := of_decide_eq_true (by first | (with_reducible assumption) | assumption)
       obtain ⟨ad195, A195_1, c195_1, e195, hx195_0, hx195_1, hl195_1, hi195_1⟩ := at_T139 HR0.out x5_1 p195 q195
       cases e195
       replace hx195_0 := cB_ HB.out hx195_0
       replace hx195_1 := cB_ HB.out hx195_1
       have HR195_1 := aM_ hi195_1
       have HC195_1 := aM_ hl195_1
       clear hi195_1 hl195_1
       replace p195 := eq_true p195
       replace q195 := eq_true q195
       go_wp2_with (first | ((with_reducible refine gate_callee (f := 113) rfl ?_); refine gL_ (some 23) Try.func113 #[.agg #[.int .i64 ((rd_T139 l0 x5_1).f0), .slice A195_1 ((rd_T139 l0 x5_1).f1).length c195_1], .int .i64 x1_1] ?_; (with_reducible refine (laws_szWrite.calls ((rd_T139 l0 x5_1).f0) _ _ ((rd_T139 l0 x5_1).f1) x1_1 t196 _ ?side1 ?side2 A6.out).mono ?_); (case side1 => exact cS_ (Kd.C_below HR195_1.out HB.out)); (case side2 => exact HC195_1.out); rintro e w9 ⟨rfl, hb⟩; refine ⟨_, rfl, ?_⟩; have n0 := aM_ (sT_ HB.out hb); clear HB; have HB := n0; clear n0))
       go_roundg k1
       case measure => have := HK1.out; omega
       case rel => exact ⟨(t196), (wrap64 (x5_1 + 1)), (by first | rfl | (simp; done) | (simp [*]; done)), (by first | rfl | (simp; done) | (simp [*]; done)), H', ⟨by have := HK1.out; omega⟩, ⟨gW_ HB.out⟩⟩
     ·rw [if_neg c5] at H
      exact absurd H (by simp)
    ·rw [if_neg c4] at H
     have c4b0 : decide (x5_1 < (l0.length : Int)) = false := decide_eq_false c4
     clear c4
     obtain rfl := Option.some.inj H
     go_wp2
     go_ret
     exact fI_ HB.out
def laws_szWriteSS.l0 : Nat → List (List (S139)) → Int → Int → Option (Int)
  | 0, _, _, _ => none
  | k + 1, x0, x1, x5 => if x5 < (x0.length : Int) then (if 0 ≤ x5 then ((laws_szWriteS.f k (rd_L5 x0 x5) x1).bind fun t198 => (if t198 < 0 then (some (-1)) else (laws_szWriteSS.l0 k x0 t198 (wrap64 (x5 + 1))))) else (none)) else (some x1)
def laws_szWriteSS.f (k : Nat) (l0 : List (List (S139))) (a1 : Int) : Option (Int) := if (wrap64 (a1 - (l0.length : Int))) < 0 then (some (-1)) else (laws_szWriteSS.l0 k l0 (wrap64 (a1 - (l0.length : Int))) 0)
set_option maxHeartbeats 8000000 in
set_option maxRecDepth 100000 in
theorem laws_szWriteSS.calls (k : Nat) (A0 : Option Addr) (c0 : Nat) (l0 : List (List (S139))) (a1 : Int) (r : Int) (w : World) (hr0 : Kd.C (Kd.slice 139 k139) w A0 l0.length l0) (hc0 : l0.length ≤ c0) (h : laws_szWriteSS.f k l0 a1 = some r) :
  Calls Try.prog 70 #[.slice A0 l0.length c0, .int .i64 a1] w fun e w' => e = .returned (.int .i64 r) ∧ Below w.heap.size w w' := by
 have HR0 := aM_ hr0
 have HC0 := aM_ hc0
 clear hr0 hc0
 have HB := aM_ (Below.refl w.heap.size w)
 have H : (if (wrap64 (a1 - (l0.length : Int))) < 0 then (some (-1)) else (laws_szWriteSS.l0 k l0 (wrap64 (a1 - (l0.length : Int))) 0)) = some r := h
 clear h
 by_cases c3 : (wrap64 (a1 - (l0.length : Int))) < 0
 ·rw [if_pos c3] at H
  have c3b0 : decide ((wrap64 (a1 - (l0.length : Int))) < 0) = true := decide_eq_true c3
  clear c3
  obtain rfl := Option.some.inj H
  go_enter Try.func70, Try.ntmps70
  go_wp2
  go_ret
  exact fI_ HB.out
 ·rw [if_neg c3] at H
  have c3b0 : decide ((wrap64 (a1 - (l0.length : Int))) < 0) = false := decide_eq_false c3
  clear c3
  have H' := aM_ H
  clear H
  go_enter Try.func70, Try.ntmps70
  go_wp2
  go_loopg [1, 5] k (fun kq v1 v5 w' => ∃ (x1_1 : Int) (x5_1 : Int), v1 = .int .i64 x1_1 ∧ v5 = .int .i64 x5_1 ∧ Aside0 (laws_szWriteSS.l0 kq l0 x1_1 x5_1 = some r) ∧ Aside0 (kq ≤ k) ∧ Aside0 (Below w.heap.size w w'))
  case atStart => exact ⟨(wrap64 (a1 - (l0.length : Int))), (0), (by first | rfl | (simp; done) | (simp [*]; done)), (by first | rfl | (simp; done) | (simp [*]; done)), H', ⟨Nat.le_refl _⟩, ⟨gW_ HB.out⟩⟩
  case round =>
   clear H'
   try clear p2
   try clear c3
   try clear c3b0
   obtain ⟨x1_1, x5_1, rfl, rfl, HA, HK1, HB⟩ := hrel
   cases gk with
   | zero => exact absurd HA.out (by simp [laws_szWriteSS.l0])
   | succ k1 =>
    have H := HA.out
    clear HA
    simp only [laws_szWriteSS.l0] at H
    by_cases c4 : x5_1 < (l0.length : Int)
    ·rw [if_pos c4] at H
     have c4b0 : decide (x5_1 < (l0.length : Int)) = true := decide_eq_true c4
     clear c4
     by_cases c5 : 0 ≤ x5_1
     ·rw [if_pos c5] at H
      have c5b0 : decide (0 ≤ x5_1) = true := decide_eq_true c5
      clear c5
      replace H := Option.bind_eq_some_iff.mp H
      obtain ⟨t198, A60, H⟩ := H
      replace H : (if t198 < 0 then (some (-1)) else (laws_szWriteSS.l0 k1 l0 t198 (wrap64 (x5_1 + 1)))) = some r := H
      have A6 := aM_ A60
      clear A60
      by_cases c7 : t198 < 0
      ·rw [if_pos c7] at H
       have c7b0 : decide (t198 < 0) = true := decide_eq_true c7
       clear c7
       obtain rfl := Option.some.inj H
       have p197 : 0 ≤ (x5_1 : Int) := of_decide_eq_true (by first | (with_reducible assumption) | assumption)
       have q197 : x5_1 < (l0.length : Int) := of_decide_eq_true (by first | (with_reducible assumption) | assumption)
       obtain ⟨ad197, A197_0, c197_0, e197, hx197_0, hl197_0, hi197_0⟩ := at_L5 HR0.out x5_1 p197 q197
       cases e197
       replace hx197_0 := cB_ HB.out hx197_0
       have HR197_0 := aM_ hi197_0
       have HC197_0 := aM_ hl197_0
       clear hi197_0 hl197_0
       replace p197 := eq_true p197
       replace q197 := eq_true q197
       go_wp2_with (first | ((with_reducible refine gate_callee (f := 98) rfl ?_); refine gL_ (some 23) Try.func98 #[.slice A197_0 (rd_L5 l0 x5_1).length c197_0, .int .i64 x1_1] ?_; (with_reducible refine (laws_szWriteS.calls k1 _ _ (rd_L5 l0 x5_1) x1_1 t198 _ ?side1 ?side2 A6.out).mono ?_); (case side1 => exact cS_ (Kd.C_below HR197_0.out HB.out)); (case side2 => exact HC197_0.out); rintro e w8 ⟨rfl, hb⟩; refine ⟨_, rfl, ?_⟩; have n0 := aM_ (sT_ HB.out hb); clear HB; have HB := n0; clear n0))
       go_ret
       exact fI_ HB.out
      ·rw [if_neg c7] at H
       have c7b0 : decide (t198 < 0) = false := decide_eq_false c7
       clear c7
       have H' := aM_ H
       clear H
       have p197 : 0 ≤ (x5_1 : Int) := of_decide_eq_true (by first | (with_reducible assumption) | assumption)
       have q197 : x5_1 < (l0.length : Int) := of_decide_eq_true (by first | (with_reducible assumption) | assumption)
       obtain ⟨ad197, A197_0, c197_0, e197, hx197_0, hl197_0, hi197_0⟩ := at_L5 HR0.out x5_1 p197 q197
       cases e197
       replace hx197_0 := cB_ HB.out hx197_0
       have HR197_0 := aM_ hi197_0
       have HC197_0 := aM_ hl197_0
       clear hi197_0 hl197_0
       replace p197 := eq_true p197
       replace q197 := eq_true q197
       go_wp2_with (first | ((with_reducible refine gate_callee (f := 98) rfl ?_); refine gL_ (some 23) Try.func98 #[.slice A197_0 (rd_L5 l0 x5_1).length c197_0, .int .i64 x1_1] ?_; (with_reducible refine (laws_szWriteS.calls k1 _ _ (rd_L5 l0 x5_1) x1_1 t198 _ ?side1 ?side2 A6.out).mono ?_); (case side1 => exact cS_ (Kd.C_below HR197_0.out HB.out)); (case side2 => exact HC197_0.out); rintro e w9 ⟨rfl, hb⟩; refine ⟨_, rfl, ?_⟩; have n0 := aM_ (sT_ HB.out hb); clear HB; have HB := n0; clear n0))
       go_roundg k1
       case measure => have := HK1.out; omega
       case rel => exact ⟨(t198), (wrap64 (x5_1 + 1)), (by first | rfl | (simp; done) | (simp [*]; done)), (by first | rfl | (simp; done) | (simp [*]; done)), H', ⟨by have := HK1.out; omega⟩, ⟨gW_ HB.out⟩⟩
     ·rw [if_neg c5] at H
      exact absurd H (by simp)
    ·rw [if_neg c4] at H
     have c4b0 : decide (x5_1 < (l0.length : Int)) = false := decide_eq_false c4
     clear c4
     obtain rfl := Option.some.inj H
     go_wp2
     go_ret
     exact fI_ HB.out
def laws_szMemory.f (k : Nat) (l0_0 : List (List (S139))) (a1 : Int) : Option (Int) := (laws_szWriteSS.f k l0_0 a1).bind fun t200 => (if t200 < 0 then (some (-1)) else (some t200))
set_option maxHeartbeats 8000000 in
set_option maxRecDepth 100000 in
theorem laws_szMemory.calls (k : Nat) (A0_0 : Option Addr) (c0_0 : Nat) (l0_0 : List (List (S139))) (a1 : Int) (r : Int) (w : World) (hr0_0 : Kd.C (Kd.slice 139 k139) w A0_0 l0_0.length l0_0) (hc0_0 : l0_0.length ≤ c0_0) (h : laws_szMemory.f k l0_0 a1 = some r) :
  Calls Try.prog 30 #[.agg #[.slice A0_0 l0_0.length c0_0], .int .i64 a1] w fun e w' => e = .returned (.int .i64 r) ∧ Below w.heap.size w w' := by
 have hu47 := Try.underlying47
 have HR0_0 := aM_ hr0_0
 have HC0_0 := aM_ hc0_0
 clear hr0_0 hc0_0
 have HB := aM_ (Below.refl w.heap.size w)
 have H : ((laws_szWriteSS.f k l0_0 a1).bind fun t200 => (if t200 < 0 then (some (-1)) else (some t200))) = some r := h
 clear h
 replace H := Option.bind_eq_some_iff.mp H
 obtain ⟨t200, A30, H⟩ := H
 replace H : (if t200 < 0 then (some (-1)) else (some t200)) = some r := H
 have A3 := aM_ A30
 clear A30
 by_cases c4 : t200 < 0
 ·rw [if_pos c4] at H
  have c4b0 : decide (t200 < 0) = true := decide_eq_true c4
  clear c4
  obtain rfl := Option.some.inj H
  go_enter Try.func30, Try.ntmps30
  go_wp2_with (first | ((with_reducible refine gate_dst (N := 2) rfl ?_); refine bX_ 2 (cs := #[.slice A0_0 l0_0.length c0_0]) (t := 47) ?_; intro gb199 hg w5 hbox hb; have n0 := aM_ (sT_ HB.out hb); have n1 := aM_ (hbox); have n2 := aM_ (sZ_ hg HB.out); have n3 := aM_ (sZ_ hg HB.out); clear HB; have HB := n0; have BK199 := n1; have GW199 := n2; have GE199 := n3; clear n0 n1 n2 n3; clear hb hbox hg; have hcz6_0 : w5.cell? ⟨gb199, 0, none⟩ = some (.slice A0_0 l0_0.length c0_0) := (blk_cell BK199.out 0).trans rfl; have hfz6_0 := blk_frozen BK199.out 0) | ((with_reducible refine gate_callee (f := 70) rfl ?_); refine gL_ (some 8) Try.func70 #[.slice A0_0 l0_0.length c0_0, .int .i64 a1] ?_; (with_reducible refine (laws_szWriteSS.calls k _ _ l0_0 a1 t200 _ ?side1 ?side2 A3.out).mono ?_); (case side1 => exact cS_ (Kd.C_below HR0_0.out HB.out)); (case side2 => exact HC0_0.out); rintro e w7 ⟨rfl, hb⟩; refine ⟨_, rfl, ?_⟩; have n0 := aM_ (nB_ BK199.out hb); have n1 := aM_ (sT_ HB.out hb); clear BK199; clear HB; have BK199 := n0; have HB := n1; clear n0 n1))
  go_ret
  exact fI_ HB.out
 ·rw [if_neg c4] at H
  have c4b0 : decide (t200 < 0) = false := decide_eq_false c4
  clear c4
  obtain rfl := Option.some.inj H
  go_enter Try.func30, Try.ntmps30
  go_wp2_with (first | ((with_reducible refine gate_dst (N := 2) rfl ?_); refine bX_ 2 (cs := #[.slice A0_0 l0_0.length c0_0]) (t := 47) ?_; intro gb199 hg w8 hbox hb; have n0 := aM_ (sT_ HB.out hb); have n1 := aM_ (hbox); have n2 := aM_ (sZ_ hg HB.out); have n3 := aM_ (sZ_ hg HB.out); clear HB; have HB := n0; have BK199 := n1; have GW199 := n2; have GE199 := n3; clear n0 n1 n2 n3; clear hb hbox hg; have hcz9_0 : w8.cell? ⟨gb199, 0, none⟩ = some (.slice A0_0 l0_0.length c0_0) := (blk_cell BK199.out 0).trans rfl; have hfz9_0 := blk_frozen BK199.out 0) | ((with_reducible refine gate_callee (f := 70) rfl ?_); refine gL_ (some 8) Try.func70 #[.slice A0_0 l0_0.length c0_0, .int .i64 a1] ?_; (with_reducible refine (laws_szWriteSS.calls k _ _ l0_0 a1 t200 _ ?side1 ?side2 A3.out).mono ?_); (case side1 => exact cS_ (Kd.C_below HR0_0.out HB.out)); (case side2 => exact HC0_0.out); rintro e w10 ⟨rfl, hb⟩; refine ⟨_, rfl, ?_⟩; have n0 := aM_ (nB_ BK199.out hb); have n1 := aM_ (sT_ HB.out hb); clear BK199; clear HB; have BK199 := n0; have HB := n1; clear n0 n1))
  go_ret
  exact fI_ HB.out
def laws_toIntS.l0 : Nat → List Int → List Int → Int → Option (List Int)
  | 0, _, _, _ => none
  | k + 1, x0, x3, x4 => if x4 < (x0.length : Int) then (if 0 ≤ x4 then (if x4 < (x3.length : Int) then (laws_toIntS.l0 k x0 (x3.set (x4 : Int).toNat (rd x0 x4)) (wrap64 (x4 + 1))) else (none)) else (none)) else (some x3)
def laws_toIntS.f (k : Nat) (l0 : List Int) : Option (List Int) := if 0 ≤ (l0.length : Int) then (if ((l0.length : Int) : Int).toNat ≤ 35184372088832 then (laws_toIntS.l0 k l0 (List.replicate ((l0.length : Int) : Int).toNat 0) 0) else (none)) else (none)
set_option maxHeartbeats 8000000 in
set_option maxRecDepth 100000 in
theorem laws_toIntS.calls (k : Nat) (A0 : Option Addr) (c0 : Nat) (l0 : List Int) (r : List Int) (w : World) (hr0 : Kd.C (Kd.int .i64) w A0 l0.length l0) (hc0 : l0.length ≤ c0) (h : laws_toIntS.f k l0 = some r) :
  Calls Try.prog 32 #[.slice A0 l0.length c0] w fun e w' => ∃ v0_ : Value, e = .returned (v0_) ∧ Kd.R (Kd.int .i64) 3 w' w.heap.size (fun _ => True) v0_ r ∧ Below w.heap.size w w' := by
 have HR0 := aM_ hr0
 have HC0 := aM_ hc0
 clear hr0 hc0
 have HB := aM_ (Below.refl w.heap.size w)
 have H : (if 0 ≤ (l0.length : Int) then (if ((l0.length : Int) : Int).toNat ≤ 35184372088832 then (laws_toIntS.l0 k l0 (List.replicate ((l0.length : Int) : Int).toNat 0) 0) else (none)) else (none)) = some r := h
 clear h
 by_cases c2 : 0 ≤ (l0.length : Int)
 ·rw [if_pos c2] at H
  have c2b0 := eq_true c2
  have c2b1 : decide (0 ≤ (l0.length : Int)) = true := decide_eq_true c2
  clear c2
  by_cases c3 : ((l0.length : Int) : Int).toNat ≤ 35184372088832
  ·rw [if_pos c3] at H
   have c3b0 := eq_true c3
   have c3b1 : decide (((l0.length : Int) : Int).toNat ≤ 35184372088832) = true := decide_eq_true c3
   clear c3
   obtain ⟨y201, hy201⟩ : ∃ y_ : List Int, y_ = (List.replicate ((l0.length : Int) : Int).toNat 0) := ⟨_, rfl⟩
   replace H : (laws_toIntS.l0 k l0 y201 0) = some r := by first | (rw [hy201]; with_reducible exact H) | (have H2_ := (Option.bind_some _ _).symm.trans H; rw [hy201]; with_reducible exact H2_) | (have H2_ := (Option.bind_some _ _).symm.trans H; with_reducible exact H2_) | with_reducible exact H | (rw [hy201]; exact H) | exact H
   have Ny201 := aM_ hy201
   clear hy201
   have H' := aM_ H
   clear H
   go_enter Try.func32, Try.ntmps32
   go_wp2_with (first | ((with_reducible refine gate_dst (N := 7) rfl ?_); refine Kd.R_make (Kd.int .i64) _ 3 rfl (N := 7) rfl 31 _ _ rfl (l0.length : Int) rfl rfl Try.underlying31 (.int .i64 0) 8 info3 rfl (by decide) (by omega) 0 (ok := fun _ => True) (okp := fun _ => True) rfl (fun _ hk => hk) trivial (of_decide_eq_true (by first | (with_reducible assumption) | assumption)) (Nat.le_trans (Nat.mul_le_mul_right _ (of_decide_eq_true (by first | (with_reducible assumption) | assumption) : (l0.length : Int).toNat ≤ 35184372088832)) (by omega)) (Below.refl _ _) (Nat.le_refl _) ?_; intro v202 w4 ho5 hb hg_ hnew_; clear hg_ hnew_; (first | rw [← Ny201.out] at ho5 | (simp only [Int.reduceToNat] at ho5; rw [← Ny201.out] at ho5)); have n0 := aM_ (Kd.R_lower ho5 (below_size (gB_ HB.out))); have n1 := aM_ (sT_ HB.out hb); clear HB; have HO203 := n0; have HB := n1; clear n0 n1; clear hb ho5))
   go_loopg [4] k (fun kq v4 w' => ∃ (x3_1 : List Int) (x4_1 : Int), v4 = .int .i64 x4_1 ∧ Aside0 (laws_toIntS.l0 kq l0 x3_1 x4_1 = some r) ∧ Aside0 (kq ≤ k) ∧ Aside0 (Kd.R (Kd.int .i64) 3 w' w.heap.size (fun _ => True) v202 x3_1) ∧ Aside0 (Below w.heap.size w w'))
   case atStart => exact ⟨(y201), (0), (by first | rfl | (simp; done) | (simp [*]; done)), H', ⟨Nat.le_refl _⟩, ⟨by (with_reducible repeat (first | apply rA_ | apply rN_ | apply rD_)); exact HO203.out⟩, ⟨gW_ HB.out⟩⟩
   case round =>
    clear H'
    try clear c2
    try clear c2b0
    try clear c2b1
    try clear p2
    try clear c3
    try clear c3b0
    try clear c3b1
    obtain ⟨x3_1, x4_1, rfl, HA, HK1, HO_3, HB⟩ := hrel
    cases gk with
    | zero => exact absurd HA.out (by simp [laws_toIntS.l0])
    | succ k1 =>
     have H := HA.out
     clear HA
     simp only [laws_toIntS.l0] at H
     by_cases c6 : x4_1 < (l0.length : Int)
     ·rw [if_pos c6] at H
      have c6b0 : decide (x4_1 < (l0.length : Int)) = true := decide_eq_true c6
      clear c6
      by_cases c7 : 0 ≤ x4_1
      ·rw [if_pos c7] at H
       have c7b0 : decide (0 ≤ x4_1) = true := decide_eq_true c7
       clear c7
       by_cases c8 : x4_1 < (x3_1.length : Int)
       ·rw [if_pos c8] at H
        have c8b0 : decide (x4_1 < (x3_1.length : Int)) = true := decide_eq_true c8
        clear c8
        obtain ⟨y205, hy205⟩ : ∃ y_ : List Int, y_ = (x3_1.set (x4_1 : Int).toNat (rd l0 x4_1)) := ⟨_, rfl⟩
        replace H : (laws_toIntS.l0 k1 l0 y205 (wrap64 (x4_1 + 1))) = some r := by first | (rw [hy205]; with_reducible exact H) | (have H2_ := (Option.bind_some _ _).symm.trans H; rw [hy205]; with_reducible exact H2_) | (have H2_ := (Option.bind_some _ _).symm.trans H; with_reducible exact H2_) | with_reducible exact H | (rw [hy205]; exact H) | exact H
        have Ny205 := aM_ hy205
        clear hy205
        have H' := aM_ H
        clear H
        have p204 : 0 ≤ (x4_1 : Int) := of_decide_eq_true (by first | (with_reducible assumption) | assumption)
        have q204 : x4_1 < (l0.length : Int) := of_decide_eq_true (by first | (with_reducible assumption) | assumption)
        obtain ⟨ad204, e204, hx204_0⟩ := Kd.at_int HR0.out x4_1 p204 q204
        cases e204
        replace hx204_0 := cB_ HB.out hx204_0
        replace p204 := eq_true p204
        replace q204 := eq_true q204
        have p9 : 0 ≤ (x4_1 : Int) := of_decide_eq_true (by first | (with_reducible assumption) | assumption)
        have q9 : (x4_1 : Int) < ((x3_1.length : Int) : Int) := of_decide_eq_true (by first | (with_reducible assumption) | assumption)
        obtain ⟨go9, co9, eo9, gb9, gl9, cl9, HG9⟩ := Kd.R_form HO_3.out (by omega)
        (first | cases eo9 | (injection eo9 with ea_ en_ ec_; (first | subst ea_ | (injection ea_ with ea_; subst ea_)); subst ec_; clear en_))
        have GB9 := aM_ gb9
        have GG9 := aM_ HG9
        clear gb9 gl9 HG9
        obtain ⟨hx9_0, hf9_0⟩ := Kd.R_celln 0 HO_3.out (x4_1 : Int) p9 q9
        replace p9 := eq_true p9
        replace q9 := eq_true q9
        have HP10 := Kd.R_putg HO_3.out (x4_1 : Int) (rd l0 x4_1)
        go_wp2_with (first | ((with_reducible refine gate_store (t := 3) (p := 20) rfl ?_); refine store_event (t := 3) (p := 20) (v := ?vo_w11) (w1 := (wr.setCell ⟨go9, (x4_1 : Int).toNat, none⟩ (.int .i64 (rd l0 x4_1)))) ?hg ?ho ?hn ?hr ?_; (case ho => rfl); (case hg => rfl); (case hn => rfl); (case hr => first | (go_simp; done) | (go_simp; rfl)); intro w11 hw; have hg : wr.grownBy w11 (some go9) := (by rw [hw]; exact HP10.2); have hp_ : Kd.R (Kd.int .i64) 3 w11 w.heap.size (fun _ => True) (.slice (some ⟨go9, 0, none⟩) x3_1.length co9) y205 := (by rw [hw, Ny205.out]; exact HP10.1); clear HP10; have n0 := aM_ (hp_); have n1 := aM_ ((by rw [hw]; exact below_set (HB.out) GB9.out : Below w.heap.size w w11)); clear HO_3; clear HB; have HO_3 := n0; have HB := n1; clear n0 n1; clear hg hw hp_))
        go_roundg k1
        case measure => have := HK1.out; omega
        case rel => exact ⟨(y205), (wrap64 (x4_1 + 1)), (by first | rfl | (simp; done) | (simp [*]; done)), H', ⟨by have := HK1.out; omega⟩, ⟨by (with_reducible repeat (first | apply rA_ | apply rN_ | apply rD_)); exact HO_3.out⟩, ⟨gW_ HB.out⟩⟩
       ·rw [if_neg c8] at H
        exact absurd H (by simp)
      ·rw [if_neg c7] at H
       exact absurd H (by simp)
     ·rw [if_neg c6] at H
      have c6b0 : decide (x4_1 < (l0.length : Int)) = false := decide_eq_false c6
      clear c6
      obtain rfl := Option.some.inj H
      go_wp2
      go_ret
      exact ⟨_, fR_, by (with_reducible repeat (first | apply rA_ | apply rN_ | apply rD_)); exact HO_3.out, gB_ HB.out⟩
  ·rw [if_neg c3] at H
   exact absurd H (by simp)
 ·rw [if_neg c2] at H
  exact absurd H (by simp)
end Go.Proofs.Ythbcnakmnbilhaa.PFnExactStore
