/- A part of the proof that the law FnExactChanIn holds for every input: the words, functions and walks that its row needs, without a condition of their own. -/
import Derived.Test.YthbcnakmnbilhaaZFnExactChanIna8
namespace Go.Proofs.Ythbcnakmnbilhaa.Marks
open Go.RowKit Go.Proofs.YthbcnakmnbilhaaW.PrintWords Go.Proofs.YthbcnakmnbilhaaW.PrintLast Go.Proofs.YthbcnakmnbilhaaW.PrintMore
set_option linter.unusedVariables false
set_option linter.unusedSimpArgs false
set_option maxHeartbeats 8000000 in
set_option maxRecDepth 100000 in
theorem wr_markChan (P : Nat → Prop) (w : World) (z0 : Int) (z2 : Bool) (A0 : Option Addr) (n0 c0 : Nat) (k : Int) (L0 : List Cel) (hr0 : RowV P w .int A0 n0 L0) (hP : ∀ j, P j → j < w.heap.size) (h0 : 0 ≤ k) (hk : k + (L0.length : Int) ≤ 4611686018427387904) :
    Calls Try.prog 50 #[.agg #[.int .i64 z0, .slice A0 n0 c0, .bool z2], .int .i64 k] w fun e w' => e = .returned (.int .i64 (k + (L0.length : Int))) ∧ Mk P w w' ∧ WrB w (L0) k w' := by
  have HHP := Aside0.mk hP
  have HH0 := Aside0.mk (And.intro h0 hk)
  have HV0 := Aside0.mk hr0
  clear hP h0 hk hr0
  have hu74 := Try.underlying74
  go_enter Try.func50, Try.ntmps50
  go_wp2_with (first | ((with_reducible refine gate_dst (N := 2) rfl ?_); refine box_event ?hg (N := 2) ?hd (cs := #[.int .i64 z0, .slice A0 n0 c0, .bool z2]) (t := 74) ?hr ?_; (case hd => rfl); (case hg => rfl); (case hr => first | (go_simp; done) | (go_simp; rfl)); intro gb hg w1 hbox hb; have BK0 := Aside0.mk hbox; have HB0 := Aside0.mk hb; have HG := Aside0.mk (show w.heap.size ≤ gb by rw [hg]; exact Nat.le_refl _); clear hg hbox hb; have HM0 := Aside0.mk (Mk.of_below (P := P) HB0.out); have HW0 := Aside0.mk (WrB.nil (k := k) HB0.out); have hcz0_0 : w1.cell? ⟨gb, 0, none⟩ = some (.int .i64 z0) := (blk_cell BK0.out 0).trans rfl; have hcz0_1 : w1.cell? ⟨gb, 1, none⟩ = some (.slice A0 n0 c0) := (blk_cell BK0.out 1).trans rfl; have hcz0_2 : w1.cell? ⟨gb, 2, none⟩ = some (.bool z2) := (blk_cell BK0.out 2).trans rfl; have hfz0_0 := blk_frozen BK0.out 0; have hfz0_1 := blk_frozen BK0.out 1; have hfz0_2 := blk_frozen BK0.out 2) | ((with_reducible refine gate_callee (f := 34) rfl ?_); refine goesL_ (some 8) rfl rfl Try.func34 (by kernel_rfl) rfl #[.slice A0 n0 c0, .int .i64 (k)] rfl (by (try simp only [List.map_toArray, List.map_cons, List.map_nil]); first | done | rfl | (simp; done)) ?_; refine (wr_markIntS P _ A0 n0 c0 (k) L0 (HV0.out.mk HM0.out) (by have h1_ := HH0.out; omega) (by have h1_ := HH0.out; omega)).mono ?_; rintro e w2 ⟨rfl, hm, hw⟩; refine ⟨_, rfl, ?_⟩; have HM1 := Aside0.mk (HM0.out.trans hm); have BK1 := Aside0.mk (blk_kept BK0.out hm.1 (fun hp => by have h1_ := HHP.out _ hp; have h2_ := HG.out; omega)); have HW1 := Aside0.mk (WrB.trans HW0.out HM0.out.2.1.size hw.B (by (try simp only [List.length_append, List.length_nil]); push_cast; omega)); clear hm hw; have hcz1_0 : w2.cell? ⟨gb, 0, none⟩ = some (.int .i64 z0) := (blk_cell BK1.out 0).trans rfl; have hcz1_1 : w2.cell? ⟨gb, 1, none⟩ = some (.slice A0 n0 c0) := (blk_cell BK1.out 1).trans rfl; have hcz1_2 : w2.cell? ⟨gb, 2, none⟩ = some (.bool z2) := (blk_cell BK1.out 2).trans rfl; have hfz1_0 := blk_frozen BK1.out 0; have hfz1_1 := blk_frozen BK1.out 1; have hfz1_2 := blk_frozen BK1.out 2))
  go_ret
  exact ⟨rfl, HM1.out, by have h_ := HW1.out; simpa using h_⟩
set_option maxHeartbeats 8000000 in
set_option maxRecDepth 100000 in
theorem hd_heldChan (P : Nat → Prop) (w : World) (z0 : Int) (z2 : Bool) (A0 : Option Addr) (n0 c0 : Nat) (k : Int) (L0 : List Cel) (hr0 : RowV P w .int A0 n0 L0) (hP : ∀ j, P j → j < w.heap.size) (hv : HeldAt w (L0) k) (h0 : 0 ≤ k) (hk : k + (L0.length : Int) ≤ 4611686018427387904) :
    Calls Try.prog 51 #[.agg #[.int .i64 z0, .slice A0 n0 c0, .bool z2], .int .i64 k] w fun e w' => e = .returned (.int .i64 (k + (L0.length : Int))) ∧ Below w.heap.size w w' := by
  have HHP := Aside0.mk hP
  have HH0 := Aside0.mk (And.intro h0 hk)
  have HV0 := Aside0.mk hr0
  have HX0 := Aside0.mk hv
  have HL0 : Aside0 (HeldAt w L0 (k)) := ⟨HX0.out⟩
  clear hP h0 hk hr0 hv
  have hu74 := Try.underlying74
  go_enter Try.func51, Try.ntmps51
  go_wp2_with (first | ((with_reducible refine gate_dst (N := 2) rfl ?_); refine box_event ?hg (N := 2) ?hd (cs := #[.int .i64 z0, .slice A0 n0 c0, .bool z2]) (t := 74) ?hr ?_; (case hd => rfl); (case hg => rfl); (case hr => first | (go_simp; done) | (go_simp; rfl)); intro gb hg w1 hbox hb; have BK0 := Aside0.mk hbox; have HB0 := Aside0.mk hb; have HG := Aside0.mk (show w.heap.size ≤ gb by rw [hg]; exact Nat.le_refl _); clear hg hbox hb; have HM0 := Aside0.mk (Mk.of_below (P := P) HB0.out); have hcz0_0 : w1.cell? ⟨gb, 0, none⟩ = some (.int .i64 z0) := (blk_cell BK0.out 0).trans rfl; have hcz0_1 : w1.cell? ⟨gb, 1, none⟩ = some (.slice A0 n0 c0) := (blk_cell BK0.out 1).trans rfl; have hcz0_2 : w1.cell? ⟨gb, 2, none⟩ = some (.bool z2) := (blk_cell BK0.out 2).trans rfl; have hfz0_0 := blk_frozen BK0.out 0; have hfz0_1 := blk_frozen BK0.out 1; have hfz0_2 := blk_frozen BK0.out 2) | ((with_reducible refine gate_callee (f := 35) rfl ?_); refine goesL_ (some 8) rfl rfl Try.func35 (by kernel_rfl) rfl #[.slice A0 n0 c0, .int .i64 (k)] rfl (by (try simp only [List.map_toArray, List.map_cons, List.map_nil]); first | done | rfl | (simp; done)) ?_; refine (hd_heldIntS P _ A0 n0 c0 (k) L0 (HV0.out.mk HM0.out) (HL0.out.of_heap (fun c hc => HB0.out.block _ (HHP.out _ (HV0.out.cells c hc).2))) (by have h1_ := HH0.out; omega) (by have h1_ := HH0.out; omega)).mono ?_; rintro e w2 ⟨rfl, hd_⟩; refine ⟨_, rfl, ?_⟩; have hb := Drawn0.below hd_; clear hd_; have HB1 := Aside0.mk (below_step HB0.out hb); have HM1 := Aside0.mk (Mk.of_below (P := P) HB1.out); have BK1 := Aside0.mk (blk_below (g := gb) (o := .cells #[.int .i64 z0, .slice A0 n0 c0, .bool z2] 74 (0, 0)) BK0.out hb); clear hb; have hl0 : decide (k + (L0.length : Int) < 0) = false := decide_eq_false (by have h1_ := HH0.out; omega); have hcz1_0 : w2.cell? ⟨gb, 0, none⟩ = some (.int .i64 z0) := (blk_cell BK1.out 0).trans rfl; have hcz1_1 : w2.cell? ⟨gb, 1, none⟩ = some (.slice A0 n0 c0) := (blk_cell BK1.out 1).trans rfl; have hcz1_2 : w2.cell? ⟨gb, 2, none⟩ = some (.bool z2) := (blk_cell BK1.out 2).trans rfl; have hfz1_0 := blk_frozen BK1.out 0; have hfz1_1 := blk_frozen BK1.out 1; have hfz1_2 := blk_frozen BK1.out 2))
  go_ret
  exact ⟨rfl, HB1.out⟩
set_option maxHeartbeats 8000000 in
set_option maxRecDepth 100000 in
theorem wr_markMemory (P : Nat → Prop) (w : World) (A0 : Option Addr) (n0 c0 : Nat) (k : Int) (L0 : List Cel) (hr0 : RowV P w (.sl (.pair .int (.sl .int))) A0 n0 L0) (hP : ∀ j, P j → j < w.heap.size) (h0 : 0 ≤ k) (hk : k + (L0.length : Int) ≤ 4611686018427387904) :
    Calls Try.prog 16 #[.agg #[.slice A0 n0 c0], .int .i64 k] w fun e w' => e = .returned (.int .i64 (k + (L0.length : Int))) ∧ Mk P w w' ∧ WrB w (L0) k w' := by
  have HHP := Aside0.mk hP
  have HH0 := Aside0.mk (And.intro h0 hk)
  have HV0 := Aside0.mk hr0
  clear hP h0 hk hr0
  have hu24 := Try.underlying24
  go_enter Try.func16, Try.ntmps16
  go_wp2_with (first | ((with_reducible refine gate_dst (N := 2) rfl ?_); refine box_event ?hg (N := 2) ?hd (cs := #[.slice A0 n0 c0]) (t := 24) ?hr ?_; (case hd => rfl); (case hg => rfl); (case hr => first | (go_simp; done) | (go_simp; rfl)); intro gb hg w1 hbox hb; have BK0 := Aside0.mk hbox; have HB0 := Aside0.mk hb; have HG := Aside0.mk (show w.heap.size ≤ gb by rw [hg]; exact Nat.le_refl _); clear hg hbox hb; have HM0 := Aside0.mk (Mk.of_below (P := P) HB0.out); have HW0 := Aside0.mk (WrB.nil (k := k) HB0.out); have hcz0_0 : w1.cell? ⟨gb, 0, none⟩ = some (.slice A0 n0 c0) := (blk_cell BK0.out 0).trans rfl; have hfz0_0 := blk_frozen BK0.out 0) | ((with_reducible refine gate_callee (f := 53) rfl ?_); refine goesL_ (some 8) rfl rfl Try.func53 (by kernel_rfl) rfl #[.slice A0 n0 c0, .int .i64 (k)] rfl (by (try simp only [List.map_toArray, List.map_cons, List.map_nil]); first | done | rfl | (simp; done)) ?_; refine (wr_markWriteSS P _ A0 n0 c0 (k) L0 (HV0.out.mk HM0.out) (by have h1_ := HH0.out; omega) (by have h1_ := HH0.out; omega)).mono ?_; rintro e w2 ⟨rfl, hm, hw⟩; refine ⟨_, rfl, ?_⟩; have HM1 := Aside0.mk (HM0.out.trans hm); have BK1 := Aside0.mk (blk_kept BK0.out hm.1 (fun hp => by have h1_ := HHP.out _ hp; have h2_ := HG.out; omega)); have HW1 := Aside0.mk (WrB.trans HW0.out HM0.out.2.1.size hw.B (by (try simp only [List.length_append, List.length_nil]); push_cast; omega)); clear hm hw; have hcz1_0 : w2.cell? ⟨gb, 0, none⟩ = some (.slice A0 n0 c0) := (blk_cell BK1.out 0).trans rfl; have hfz1_0 := blk_frozen BK1.out 0))
  go_ret
  exact ⟨rfl, HM1.out, by have h_ := HW1.out; simpa using h_⟩
end Go.Proofs.Ythbcnakmnbilhaa.Marks
namespace Go.Proofs.Ythbcnakmnbilhaa.LawKit
open Go.RowKit Go.Proofs.YthbcnakmnbilhaaW.PrintWords Go.Proofs.YthbcnakmnbilhaaW.PrintLast Go.Proofs.YthbcnakmnbilhaaW.PrintMore Go.Proofs.Ythbcnakmnbilhaa.Marks
set_option linter.unusedVariables false
set_option linter.unusedSimpArgs false
def St (lo hi : Nat) (Q : World → Prop) (W : World) : Prop := hi ≤ W.heap.size ∧ ∀ W' : World, (∀ g, lo ≤ g → g < hi → W'.heap[g]? = W.heap[g]?) → Q W'
section
variable {lo hi g o : Nat} {Q : World → Prop} {W W' : World} {P : Nat → Prop}
theorem St.now (h : St lo hi Q W) : Q W := h.2 W (fun _ _ _ => rfl)
theorem St.keep (h : St lo hi Q W) (hs : W.heap.size ≤ W'.heap.size) (hk : ∀ g, lo ≤ g → g < hi → W'.heap[g]? = W.heap[g]?) : St lo hi Q W' :=
  ⟨Nat.le_trans h.1 hs, fun W2 h2 => h.2 W2 (fun g h3 h4 => (h2 g h3 h4).trans (hk g h3 h4))⟩
theorem St.below (h : St lo hi Q W) (hb : Below W.heap.size W W') : St lo hi Q W' := h.keep hb.size (fun g _ h4 => hb.block g (Nat.lt_of_lt_of_le h4 h.1))
theorem St.drew (h : St lo hi Q W) : St lo hi Q W.drew := h.keep (Nat.le_refl _) (fun _ _ _ => rfl)
theorem St.drewN (h : St lo hi Q W) (n : Nat) : St lo hi Q (W.drewN n) := h.keep (Nat.le_refl _) (fun _ _ _ => rfl)
theorem St.set (h : St lo hi Q W) (hg : hi ≤ g) (v : Value) : St lo hi Q (W.setCell ⟨g, o, none⟩ v) :=
  h.keep (by simp [World.setCell]) (fun k _ h4 => Below.heap_setCell W ⟨g, o, none⟩ v k (by show k ≠ g; omega))
theorem St.mark (h : St lo hi Q W) (hm : Mk P W W') (hP : ∀ k, P k → k < lo ∨ hi ≤ k) : St lo hi Q W' :=
  h.keep hm.2.1.size (fun k h3 h4 => hm.1.2 k (Nat.lt_of_lt_of_le h4 h.1) (fun hp => by have := hP k hp; omega))
theorem St.new (top : Nat) (ht : top ≤ W.heap.size) (hs : W.heap.size ≤ W'.heap.size) : ∃ lo hi, top ≤ lo ∧ lo ≤ hi ∧ hi ≤ W'.heap.size ∧ ∀ (α : Type) (d : Kd α) (e : Nat) (v : Value) (xs : List α) (ok : Nat → Prop), Kd.R d e W' W.heap.size ok v xs → St lo hi (fun w => Kd.R d e w lo (fun k => lo ≤ k ∧ k < hi) v xs) W' :=
  ⟨W.heap.size, W'.heap.size, ht, hs, Nat.le_refl _, fun α d e v xs ok h => ⟨Nat.le_refl _, fun W2 h2 => Kd.R_step (Kd.R_mono (Kd.R_bound h) (fun k hk => ⟨hk.2.1, hk.2.2.1⟩)) (fun k hk _ => h2 k hk.1 hk.2)⟩⟩
end
section
variable {α : Type} {d : Kd α} {e lo hi : Nat} {W : World} {A : Option Addr} {n c : Nat} {xs : List α}
theorem St.reads (h : St lo hi (fun w => Kd.R d e w lo (fun k => lo ≤ k ∧ k < hi) (.slice A xs.length c) xs) W) : d.C W A xs.length xs := (Kd.R_reads' h.now).2.2
theorem St.room (h : St lo hi (fun w => Kd.R d e w lo (fun k => lo ≤ k ∧ k < hi) (.slice A xs.length c) xs) W) : xs.length ≤ c := (Kd.R_reads' h.now).2.1
theorem St.rowv {T : Ty} {wt : α → Nat} (hT : Rep d T wt) (h : St lo hi (fun w => Kd.R d e w lo (fun k => lo ≤ k ∧ k < hi) (.slice A xs.length c) xs) W) : ∃ L, RowV (fun k => lo ≤ k ∧ k < hi) W T A xs.length L ∧ L.length = wsum wt xs := by
  obtain ⟨A', c', L, e1, h1, h2⟩ := hT.row h.now
  injection e1 with e2 e3 e4
  subst e2 e4
  exact ⟨L, h1, h2⟩
end
section
variable {P : Nat → Prop} {w w' : World}
theorem IntAt_move {g o : Nat} (h : IntAt w g o) (hm : w'.heap[g]? = w.heap[g]?) : IntAt w' g o := by
  obtain ⟨cs, t, n, h1, h2⟩ := h
  exact ⟨cs, t, n, hm.trans h1, h2⟩
theorem BoolAt_move {g o : Nat} (h : BoolAt w g o) (hm : w'.heap[g]? = w.heap[g]?) : BoolAt w' g o := by
  obtain ⟨cs, t, n, h1, h2⟩ := h
  exact ⟨cs, t, n, hm.trans h1, h2⟩
theorem SlAt_move {g o n c : Nat} {A : Option Addr} (h : SlAt w g o A n c) (hm : w'.heap[g]? = w.heap[g]?) : SlAt w' g o A n c := by
  obtain ⟨cs, t, h1, h2⟩ := h
  exact ⟨cs, t, hm.trans h1, h2⟩
theorem Vis.move (hm : ∀ g, P g → w'.heap[g]? = w.heap[g]?) : ∀ {t : Ty} {g o : Nat} {L : List Cel}, P g → Vis P w t g o L → Vis P w' t g o L
  | .int, g, o, L, hg, h => ⟨h.1, IntAt_move h.2 (hm g hg)⟩
  | .bool, g, o, L, hg, h => ⟨h.1, BoolAt_move h.2 (hm g hg)⟩
  | .pair a b, g, o, L, hg, ⟨L1, L2, e, h1, h2⟩ => ⟨L1, L2, e, Vis.move hm hg h1, Vis.move hm hg h2⟩
  | .sl a, g, o, L, hg, ⟨A, n, c, hs, hb, Ls, e, h⟩ => ⟨A, n, c, SlAt_move hs (hm g hg), hb, Ls, e, fun hn => by
    obtain ⟨g', e', hp, hi⟩ := h hn
    exact ⟨g', e', hp, fun i hl => Vis.move hm hp (hi i hl)⟩⟩
theorem RowV.move (hm : ∀ g, P g → w'.heap[g]? = w.heap[g]?) {t : Ty} {A : Option Addr} {n : Nat} {L : List Cel} (h : RowV P w t A n L) : RowV P w' t A n L := by
  obtain ⟨hb, Ls, e, h⟩ := h
  exact ⟨hb, Ls, e, fun hn => by
    obtain ⟨g', e', hp, hi⟩ := h hn
    exact ⟨g', e', hp, fun i hl => Vis.move hm hp (hi i hl)⟩⟩
end
theorem St.of_row {lo hi : Nat} {W : World} {t : Ty} {A : Option Addr} {n : Nat} {L : List Cel} (hs : hi ≤ W.heap.size) (h : RowV (fun k => lo ≤ k ∧ k < hi) W t A n L) : St lo hi (fun w => RowV (fun k => lo ≤ k ∧ k < hi) w t A n L) W :=
  ⟨hs, fun W2 h2 => RowV.move (fun g hg => h2 g hg.1 hg.2) h⟩
theorem St.of_held {lo hi : Nat} {W : World} {L : List Cel} {k : Int} (hs : hi ≤ W.heap.size) (hL : ∀ c ∈ L, lo ≤ c.1 ∧ c.1 < hi) (h : HeldAt W L k) : St lo hi (fun w => HeldAt w L k) W :=
  ⟨hs, fun W2 h2 => h.of_heap (fun c hc => h2 c.1 (hL c hc).1 (hL c hc).2)⟩
theorem RowV.ints {P : Nat → Prop} {w : World} {A : Option Addr} {n : Nat} {L : List Cel} (h : RowV P w .int A n L) : (L.map addr2).Nodup := by
  obtain ⟨_, Ls, rfl, h⟩ := h
  have key : ∀ m, m ≤ n → ((cat Ls m).map addr2).Nodup ∧ ∀ a ∈ (cat Ls m).map addr2, a.2 < m := by
    intro m
    induction m with
    | zero => intro _; exact ⟨by simp [cat], by simp [cat]⟩
    | succ m ih =>
      intro hm
      obtain ⟨i1, i2⟩ := ih (by omega)
      obtain ⟨g, _, _, hi⟩ := h (by omega)
      have e := (hi m (by omega)).1
      rw [cat_succ, e, List.map_append]
      refine ⟨List.nodup_append.2 ⟨i1, by simp, fun a ha b hb e2 => ?_⟩, fun a ha => ?_⟩
      · have h1 := i2 a ha
        have hb2 : b = addr2 (g, m * Ty.int.sz, false) := by simpa using hb
        subst e2
        rw [hb2] at h1
        simp [addr2, Ty.sz] at h1
      · rcases List.mem_append.1 ha with ha | ha
        · have := i2 a ha
          omega
        · have hb2 : a = addr2 (g, m * Ty.int.sz, false) := by simpa using ha
          rw [hb2]
          simp [addr2, Ty.sz]
  exact (key n (Nat.le_refl _)).1
end Go.Proofs.Ythbcnakmnbilhaa.LawKit
